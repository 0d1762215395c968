import PyProof.Rows.All
import HandS.ForMost
import HandS.Exc
import HandS.HeadHook1
import KE.KDictKeyed
import PyProof.ReprRoads
import HandS.WordsExc
import KE.KDictDisplayH
import HandS.Conv
import HandS.Steps
import HandS.TupAny
import HandS.Deep
import HandS.TupLe
import HandS.SortInts
import HandS.Wide
import HandS.WideBits
import HandS.TupMul
import PyProof.P3In
import HandS.WordsDict
import HandS.TupLen
import HandS.RaiseMore
import HandS.Comp
import HandS.Iter
import HandS.Zip
import HandS.ListItems
import KE.KDictItemsList
import HandS.SortOrd
import HandS.Text
import KE.OsSort
import HandS.ExcValue
import HandS.Ends
import HandS.Style
import Wide.All
import OpenK.AllK
import Wide.FinOn
import PySem.Challenge.RW_liftedties_k30_whole_kinds_that_have_web
set_option Elab.async false
set_option linter.all false
set_option maxRecDepth 100000
set_option maxHeartbeats 4000000
/-! The value layer, part A: plain data, how it stands in the abstract heap, the state of a frame. -/
namespace VL
open PySem PySem.Spec L2

/-- plain data by value; `dct`: a dict (n: its keys are tuples, else ints and texts); `ins`: an instance of the class of that name with its attributes -/
inductive D where
  | non | bl (b : Bool) | int (i : Int) | str (s : Str)
  | tup (ds : List D) | lst (ds : List D) | dct (n : Bool) (kvs : List (D × D)) | ins (c : Str) (fs : List (Str × D)) | frl (ds : List D)

namespace D
mutual
def beq : D → D → Bool
  | .non, .non => true
  | .bl a, .bl b => a == b
  | .int a, .int b => decide (a = b)
  | .str a, .str b => decide (a = b)
  | .tup a, .tup b => beqL a b
  | .lst a, .lst b => beqL a b
  | .frl a, .frl b => beqL a b
  | .dct n a, .dct m b => (n == m) && beqK a b
  | .ins c a, .ins d b => decide (c = d) && beqF a b
  | _, _ => false
def beqL : List D → List D → Bool
  | [], [] => true
  | a :: as, b :: bs => beq a b && beqL as bs
  | _, _ => false
def beqK : List (D × D) → List (D × D) → Bool
  | [], [] => true
  | (a, x) :: as, (b, y) :: bs => beq a b && (beq x y && beqK as bs)
  | _, _ => false
def beqF : List (Str × D) → List (Str × D) → Bool
  | [], [] => true
  | (a, x) :: as, (b, y) :: bs => decide (a = b) && (beq x y && beqF as bs)
  | _, _ => false
end
mutual
theorem beq_self : ∀ a : D, beq a a = true
  | .non => by simp [beq]
  | .bl a => by simp [beq]
  | .int a => by simp [beq]
  | .str a => by simp [beq]
  | .tup a => by rw [beq]; exact beqL_self a
  | .lst a => by rw [beq]; exact beqL_self a
  | .frl a => by rw [beq]; exact beqL_self a
  | .dct n a => by rw [beq, beqK_self a]; simp
  | .ins c a => by rw [beq, beqF_self a]; simp
theorem beqL_self : ∀ a : List D, beqL a a = true
  | [] => by simp [beqL]
  | a :: as => by rw [beqL, beq_self a, beqL_self as]; rfl
theorem beqK_self : ∀ a : List (D × D), beqK a a = true
  | [] => by simp [beqK]
  | (a, x) :: as => by rw [beqK, beq_self a, beq_self x, beqK_self as]; rfl
theorem beqF_self : ∀ a : List (Str × D), beqF a a = true
  | [] => by simp [beqF]
  | (a, x) :: as => by rw [beqF, beq_self x, beqF_self as]; simp
end
mutual
theorem of_beq : ∀ a b : D, beq a b = true → a = b
  | .non, b, h => by cases b <;> simp_all [beq]
  | .bl a, b, h => by cases b <;> simp_all [beq]
  | .int a, b, h => by cases b <;> simp_all [beq]
  | .str a, b, h => by cases b <;> simp_all [beq]
  | .tup a, b, h => by
    cases b with
    | tup b => rw [of_beqL a b (by simpa [beq] using h)]
    | _ => simp [beq] at h
  | .lst a, b, h => by
    cases b with
    | lst b => rw [of_beqL a b (by simpa [beq] using h)]
    | _ => simp [beq] at h
  | .frl a, b, h => by
    cases b with
    | frl b => rw [of_beqL a b (by simpa [beq] using h)]
    | _ => simp [beq] at h
  | .dct n a, b, h => by
    cases b with
    | dct m b =>
      rw [beq, Bool.and_eq_true] at h
      rw [of_beqK a b h.2, eq_of_beq h.1]
    | _ => simp [beq] at h
  | .ins c a, b, h => by
    cases b with
    | ins d b =>
      rw [beq, Bool.and_eq_true] at h
      rw [of_beqF a b h.2, of_decide_eq_true h.1]
    | _ => simp [beq] at h
theorem of_beqL : ∀ a b : List D, beqL a b = true → a = b
  | [], b, h => by cases b <;> simp_all [beqL]
  | a :: as, [], h => by simp [beqL] at h
  | a :: as, b :: bs, h => by
    rw [beqL, Bool.and_eq_true] at h
    rw [of_beq a b h.1, of_beqL as bs h.2]
theorem of_beqK : ∀ a b : List (D × D), beqK a b = true → a = b
  | [], b, h => by cases b <;> simp_all [beqK]
  | a :: as, [], h => by simp [beqK] at h
  | (a, x) :: as, (b, y) :: bs, h => by
    rw [beqK, Bool.and_eq_true, Bool.and_eq_true] at h
    rw [of_beq a b h.1, of_beq x y h.2.1, of_beqK as bs h.2.2]
theorem of_beqF : ∀ a b : List (Str × D), beqF a b = true → a = b
  | [], b, h => by cases b <;> simp_all [beqF]
  | a :: as, [], h => by simp [beqF] at h
  | (a, x) :: as, (b, y) :: bs, h => by
    rw [beqF, Bool.and_eq_true, Bool.and_eq_true] at h
    rw [of_decide_eq_true h.1, of_beq x y h.2.1, of_beqF as bs h.2.2]
end
instance : DecidableEq D := fun a b => if h : beq a b = true then .isTrue (of_beq a b h) else .isFalse fun e => h (e ▸ beq_self a)

mutual
/-- no list, dict or instance within -/
def imm : D → Bool
  | .non | .bl _ | .int _ | .str _ => true
  | .tup ds => immL ds
  | .frl ds => immL ds
  | _ => false
def immL : List D → Bool
  | [] => true
  | d :: ds => imm d && immL ds
end
end D
open D

/-! ### keys -/
def keyOf : D → Option Key
  | .int i => some (.inl i)
  | .str s => some (.inr s)
  | _ => none
mutual
def nkey : D → Option NestedKey
  | .non => some .none
  | .int i => some (.num i)
  | .str s => some (.text s)
  | .tup ds => (nkeyL ds).map .tup
  | _ => none
def nkeyL : List D → Option (List NestedKey)
  | [] => some []
  | d :: ds => match nkey d, nkeyL ds with
    | some k, some ks => some (k :: ks)
    | _, _ => none
end

/-! ### how data stands in the abstract heap -/
/-- a dict whose keys are tuples (of tuples ..): its entries as they are -/
def ndct (P : Program) (w : World) (a : Addr) (xs : List (NestedKey × Addr × Value)) : HO :=
  .ext fun h => a ≠ sysModules ∧ xs.length ≤ sizeLine ∧ (xs.map (·.1)).Nodup ∧ ∃ o es ep, h.get? a = some o ∧ o.ExactDict ∧ o.data = .dict es ep ∧ es.toList = xs.map (entryOfKey (nestedKind P w))

abbrev Entry := NestedKey × Addr × Value × V
def unV (y : Entry) : NestedKey × Addr × Value := (y.1, y.2.1, y.2.2.1)
/-- a list that nobody may change: the script (or an object of the module) -/
def FqL (K : PySem.W.Frag) (H : Hp) (a : Addr) (xs : List V) : Prop :=
  (∃ o, H a = some (.frz o (.lst xs))) ∨ ∃ (o : Obj) (its : Array Value) (n : Nat), K.lookup a = some o ∧ o.cls = .type "list" ∧ o.dict = none ∧ o.data = .seq its n ∧ its.size ≤ sizeLine ∧ Vals xs its.toList
theorem FqL.seq {K : PySem.W.Frag} {H : Hp} {a : Addr} {xs : List V} (h : FqL K H a xs) : SqL K H a xs := h.elim (fun h => .inl (.inr h)) .inr
structure Gd where
  P : Program
  w : World
  K : PySem.W.Frag

mutual
/-- the value v stands for d in H; F: the addresses of the lists, dicts and instances within -/
inductive Rep (G : Gd) (H : Hp) : D → V → List Addr → Prop
  | non : Rep G H .non .non []
  | bl (b : Bool) : Rep G H (.bl b) (.bl b) []
  | int (i : Int) : Rep G H (.int i) (.int i) []
  | str (x : Str) : Rep G H (.str x) (.str x) []
  | tup {a : Addr} {ds : List D} {vs : List V} {F : List Addr} : SqT G.K H a vs → RepL G H ds vs F → Rep G H (.tup ds) (.ref a) F
  | lst {a : Addr} {ds : List D} {vs : List V} {F : List Addr} : H a = some (.lst vs) → RepL G H ds vs F → Rep G H (.lst ds) (.ref a) (a :: F)
  | dct {a : Addr} {kvs : List (D × D)} {ps : List (Key × V)} {F : List Addr} : H a = some (.dK ps) → (ps.map (·.1)).Nodup → kvs.map (fun q => keyOf q.1) = ps.map (fun q => some q.1) → RepL G H (kvs.map (·.2)) (ps.map (·.2)) F → Rep G H (.dct false kvs) (.ref a) (a :: F)
  | dcn {a : Addr} {kvs : List (D × D)} {ys : List Entry} {F : List Addr} : H a = some (ndct G.P G.w a (ys.map unV)) → (ys.map (·.1)).Nodup → kvs.map (fun q => nkey q.1) = ys.map (fun y => some y.1) →
      (∀ y ∈ ys, y.1.depth ≤ 8 ∧ RelV y.2.2.2 y.2.2.1) → RepL G H (kvs.map (·.1)) (ys.map fun y => V.ref y.2.1) [] → RepL G H (kvs.map (·.2)) (ys.map (·.2.2.2)) F → Rep G H (.dct true kvs) (.ref a) (a :: F)
  | ins {a dx : Addr} {c : Str} {fs : List (Str × D)} {gs : List (Str × V)} {F : List Addr} : H a = some (.ins (He.ga G.K c) dx gs) → fs.map (·.1) = gs.map (·.1) → RepL G H (fs.map (·.2)) (gs.map (·.2)) F → Rep G H (.ins c fs) (.ref a) (a :: F)
  | frl {a : Addr} {ds : List D} {vs : List V} {F : List Addr} : FqL G.K H a vs → RepL G H ds vs F → Rep G H (.frl ds) (.ref a) F
inductive RepL (G : Gd) (H : Hp) : List D → List V → List Addr → Prop
  | nil : RepL G H [] [] []
  | cons {d : D} {v : V} {F : List Addr} {ds : List D} {vs : List V} {Fs : List Addr} : Rep G H d v F → RepL G H ds vs Fs → RepL G H (d :: ds) (v :: vs) (F ++ Fs)
end
/-! ### what a representation leans on -/
/-- what may be in a footprint -/
def Cell : HO → Prop
  | .lst _ => True
  | .dK _ => True
  | .ins _ _ _ => True
  | .ext _ => True
  | _ => False
theorem cell_ndct {P : Program} {w : World} {a : Addr} {xs : List (NestedKey × Addr × Value)} : Cell (ndct P w a xs) := trivial
/-- off W all that stood stands -/
def Off (W : Addr → Prop) (H H' : Hp) : Prop := ∀ a o, H a = some o → ¬ W a → H' a = some o
theorem Off.refl {W : Addr → Prop} {H : Hp} : Off W H H := fun _ _ e _ => e
theorem offSame {W : Addr → Prop} {H H' : Hp} (s : Same H H') : Off W H H' := fun a o e _ => s a o e
theorem Off.mono {W W' : Addr → Prop} {H H' : Hp} (s : Off W H H') (h : ∀ a, W a → W' a) : Off W' H H' := fun a o e n => s a o e fun q => n (h a q)
section
variable {G : Gd} {H H' : Hp}
theorem seqT_off {W : Addr → Prop} (hW : ∀ a, W a → ∃ o, H a = some o ∧ Cell o) (s : Off W H H') {a : Addr} {xs : List V} (h : SqT G.K H a xs) : SqT G.K H' a xs := by
  rcases h with (h | ⟨o, h⟩) | h
  · refine .inl (.inl (s _ _ h fun q => ?_))
    obtain ⟨u, e, c⟩ := hW _ q
    rw [h] at e
    cases e
    exact c
  · refine .inl (.inr ⟨o, s _ _ h fun q => ?_⟩)
    obtain ⟨u, e, c⟩ := hW _ q
    rw [h] at e
    cases e
    exact c
  · exact .inr h
mutual
theorem Rep.off {W : Addr → Prop} (hW : ∀ a, W a → ∃ o, H a = some o ∧ Cell o) (s : Off W H H') : ∀ {d : D} {v : V} {F : List Addr}, Rep G H d v F → (∀ a ∈ F, ¬ W a) → Rep G H' d v F
  | _, _, _, .non, _ => .non
  | _, _, _, .bl b, _ => .bl b
  | _, _, _, .int i, _ => .int i
  | _, _, _, .str x, _ => .str x
  | _, _, _, .tup h r, n => .tup (seqT_off hW s h) (RepL.off hW s r n)
  | _, _, _, .lst h r, n => .lst (s _ _ h (n _ List.mem_cons_self)) (RepL.off hW s r fun a q => n a (List.mem_cons_of_mem _ q))
  | _, _, _, .dct h nd k r, n => .dct (s _ _ h (n _ List.mem_cons_self)) nd k (RepL.off hW s r fun a q => n a (List.mem_cons_of_mem _ q))
  | _, _, _, .dcn h nd k dp rk r, n => .dcn (s _ _ h (n _ List.mem_cons_self)) nd k dp (RepL.off hW s rk fun a q => nomatch q) (RepL.off hW s r fun a q => n a (List.mem_cons_of_mem _ q))
  | _, _, _, .ins h k r, n => .ins (s _ _ h (n _ List.mem_cons_self)) k (RepL.off hW s r fun a q => n a (List.mem_cons_of_mem _ q))
  | _, _, _, .frl h r, n => .frl (by
      rcases h with ⟨o, h⟩ | h
      · refine .inl ⟨o, s _ _ h fun q => ?_⟩
        obtain ⟨u, e, c⟩ := hW _ q
        rw [h] at e
        cases e
        exact c
      · exact .inr h) (RepL.off hW s r n)
theorem RepL.off {W : Addr → Prop} (hW : ∀ a, W a → ∃ o, H a = some o ∧ Cell o) (s : Off W H H') : ∀ {ds : List D} {vs : List V} {F : List Addr}, RepL G H ds vs F → (∀ a ∈ F, ¬ W a) → RepL G H' ds vs F
  | _, _, _, .nil, _ => .nil
  | _, _, _, .cons r rs, n => .cons (Rep.off hW s r fun a q => n a (List.mem_append_left _ q)) (RepL.off hW s rs fun a q => n a (List.mem_append_right _ q))
end
theorem Rep.same (s : Same H H') {d : D} {v : V} {F : List Addr} (r : Rep G H d v F) : Rep G H' d v F :=
  r.off (W := fun _ => False) (fun _ q => q.elim) (fun a o e _ => s a o e) fun _ _ q => q
theorem RepL.same (s : Same H H') {ds : List D} {vs : List V} {F : List Addr} (r : RepL G H ds vs F) : RepL G H' ds vs F :=
  r.off (W := fun _ => False) (fun _ q => q.elim) (fun a o e _ => s a o e) fun _ _ q => q
mutual
theorem Rep.cell : ∀ {d : D} {v : V} {F : List Addr}, Rep G H d v F → ∀ a ∈ F, ∃ o, H a = some o ∧ Cell o
  | _, _, _, .non, _, q => nomatch q
  | _, _, _, .bl b, _, q => nomatch q
  | _, _, _, .int i, _, q => nomatch q
  | _, _, _, .str x, _, q => nomatch q
  | _, _, _, .tup h r, a, q => RepL.cell r a q
  | _, _, _, .lst h r, a, q => by
    rcases List.mem_cons.mp q with rfl | q
    · exact ⟨_, h, trivial⟩
    · exact RepL.cell r a q
  | _, _, _, .dct h nd k r, a, q => by
    rcases List.mem_cons.mp q with rfl | q
    · exact ⟨_, h, trivial⟩
    · exact RepL.cell r a q
  | _, _, _, .dcn h nd k dp rk r, a, q => by
    rcases List.mem_cons.mp q with rfl | q
    · exact ⟨_, h, trivial⟩
    · exact RepL.cell r a q
  | _, _, _, .ins h k r, a, q => by
    rcases List.mem_cons.mp q with rfl | q
    · exact ⟨_, h, trivial⟩
    · exact RepL.cell r a q
  | _, _, _, .frl h r, a, q => RepL.cell r a q
theorem RepL.cell : ∀ {ds : List D} {vs : List V} {F : List Addr}, RepL G H ds vs F → ∀ a ∈ F, ∃ o, H a = some o ∧ Cell o
  | _, _, _, .nil, _, q => nomatch q
  | _, _, _, .cons r rs, a, q => by
    rcases List.mem_append.mp q with q | q
    · exact Rep.cell r a q
    · exact RepL.cell rs a q
end
theorem Rep.dom {d : D} {v : V} {F : List Addr} (r : Rep G H d v F) {a : Addr} (q : a ∈ F) : H a ≠ none := by
  obtain ⟨o, e, _⟩ := r.cell a q
  rw [e]
  exact fun z => nomatch z
theorem RepL.dom {ds : List D} {vs : List V} {F : List Addr} (r : RepL G H ds vs F) {a : Addr} (q : a ∈ F) : H a ≠ none := by
  obtain ⟨o, e, _⟩ := r.cell a q
  rw [e]
  exact fun z => nomatch z
mutual
theorem Rep.imm : ∀ {d : D} {v : V} {F : List Addr}, Rep G H d v F → d.imm = true → F = []
  | _, _, _, .non, _ => rfl
  | _, _, _, .bl b, _ => rfl
  | _, _, _, .int i, _ => rfl
  | _, _, _, .str x, _ => rfl
  | _, _, _, .tup h r, q => RepL.imm r (by simpa [D.imm] using q)
  | _, _, _, .lst h r, q => by simp [D.imm] at q
  | _, _, _, .dct h nd k r, q => by simp [D.imm] at q
  | _, _, _, .dcn h nd k dp rk r, q => by simp [D.imm] at q
  | _, _, _, .ins h k r, q => by simp [D.imm] at q
  | _, _, _, .frl h r, q => RepL.imm r (by simpa [D.imm] using q)
theorem RepL.imm : ∀ {ds : List D} {vs : List V} {F : List Addr}, RepL G H ds vs F → immL ds = true → F = []
  | _, _, _, .nil, _ => rfl
  | _, _, _, .cons r rs, q => by
    simp only [immL, Bool.and_eq_true] at q
    rw [Rep.imm r q.1, RepL.imm rs q.2] <;> rfl
end
theorem RepL.length : ∀ {ds : List D} {vs : List V} {F : List Addr}, RepL G H ds vs F → ds.length = vs.length
  | _, _, _, .nil => rfl
  | _, _, _, .cons r rs => by rw [List.length_cons, List.length_cons, RepL.length rs]
theorem RepL.append : ∀ {ds es : List D} {vs us : List V} {F F' : List Addr}, RepL G H ds vs F → RepL G H es us F' → RepL G H (ds ++ es) (vs ++ us) (F ++ F')
  | _, _, _, _, _, _, .nil, r => r
  | _, _, _, _, _, _, .cons r rs, q => by
    rw [List.cons_append, List.cons_append, List.append_assoc]
    exact .cons r (RepL.append rs q)
theorem RepL.one {d : D} {v : V} {F : List Addr} (r : Rep G H d v F) : RepL G H [d] [v] F := by
  have q := RepL.cons r RepL.nil
  rw [List.append_nil] at q
  exact q
theorem RepL.get : ∀ {ds : List D} {vs : List V} {F : List Addr} {i : Nat} {d : D}, RepL G H ds vs F → ds[i]? = some d → ∃ v F', vs[i]? = some v ∧ Rep G H d v F' ∧ ∀ a ∈ F', a ∈ F
  | _, _, _, i, d, .nil, e => by simp at e
  | _, _, _, 0, d, .cons r rs, e => by
    simp at e
    subst e
    exact ⟨_, _, rfl, r, fun a q => List.mem_append_left _ q⟩
  | _, _, _, i + 1, d, .cons r rs, e => by
    obtain ⟨v, F', h1, h2, h3⟩ := RepL.get (i := i) rs (by simpa using e)
    exact ⟨v, F', by simpa using h1, h2, fun a q => List.mem_append_right _ (h3 a q)⟩
theorem RepL.getV : ∀ {ds : List D} {vs : List V} {F : List Addr} {i : Nat} {v : V}, RepL G H ds vs F → vs[i]? = some v → ∃ d F', ds[i]? = some d ∧ Rep G H d v F' ∧ ∀ a ∈ F', a ∈ F
  | _, _, _, i, d, .nil, e => by simp at e
  | _, _, _, 0, d, .cons r rs, e => by
    simp at e
    subst e
    exact ⟨_, _, rfl, r, fun a q => List.mem_append_left _ q⟩
  | _, _, _, i + 1, d, .cons r rs, e => by
    obtain ⟨v, F', h1, h2, h3⟩ := RepL.getV (i := i) rs (by simpa using e)
    exact ⟨v, F', by simpa using h1, h2, fun a q => List.mem_append_right _ (h3 a q)⟩
end
end VL

/-! The value layer, part B: the state of a frame, expressions. -/
namespace VL
open PySem PySem.Spec L2 D

/-- the frame's names, by slot, as data -/
abbrev DSt := List (Option D)
/-- one activation: the slots that may be changed in place (O: these and what is the activation's own), how many parameters, their values, their cells at the entry, the heap at the entry; what has to stay -/
structure Act where
  M : List Nat
  np : Nat
  vp : List V
  Wp : Nat → List Addr
  H0 : Hp
  Pr : Hp
  O : List Nat

structure SR (G : Gd) (C : Act) (Fs : Nat → List Addr) (σ : St) (H : Hp) (st : DSt) : Prop where
  len : σ.length = st.length
  rep : ∀ i d, st[i]? = some (some d) → ∃ v, σ[i]? = some (some v) ∧ Rep G H d v (Fs i)
  emp : ∀ i, (∀ d, st[i]? ≠ some (some d)) → Fs i = []
  ndo : ∀ i ∈ C.O, (Fs i).Nodup
  dj : ∀ i ∈ C.M, ∀ j, j ≠ i → ∀ a ∈ Fs i, a ∉ Fs j
  owno : ∀ i ∈ C.O, ∀ a ∈ Fs i, C.H0 a = none ∨ (i < C.np ∧ a ∈ C.Wp i)
  pr : ∀ a o, C.Pr a = some o → H a = some o
  prd : ∀ i ∈ C.M, ∀ a ∈ Fs i, C.Pr a = none
  up : ∀ a, H a = none → C.H0 a = none
  pin : ∀ i ∈ C.M, i < C.np → σ[i]? = C.vp[i]?.map some
  mo : ∀ i ∈ C.M, i ∈ C.O

section
variable {G : Gd} {C : Act} {Fs Fs1 Fs2 : Nat → List Addr} {σ : St} {H H1 H2 : Hp} {st st1 st2 : DSt}
theorem SR.nd (r : SR G C Fs σ H st) : ∀ i ∈ C.M, (Fs i).Nodup := fun i hi => r.ndo i (r.mo i hi)
theorem SR.own (r : SR G C Fs σ H st) : ∀ i ∈ C.M, ∀ a ∈ Fs i, C.H0 a = none ∨ (i < C.np ∧ a ∈ C.Wp i) := fun i hi => r.owno i (r.mo i hi)
theorem SR.cell (r : SR G C Fs σ H st) {i : Nat} {a : Addr} (h : a ∈ Fs i) : ∃ o, H a = some o ∧ Cell o := by
  by_cases q : ∃ d, st[i]? = some (some d)
  · obtain ⟨d, q⟩ := q
    obtain ⟨v, _, z⟩ := r.rep i d q
    exact z.cell a h
  · have e := r.emp i fun d z => q ⟨d, z⟩
    rw [e] at h
    cases h
theorem SR.dom (r : SR G C Fs σ H st) {i : Nat} {a : Addr} (h : a ∈ Fs i) : H a ≠ none := by
  obtain ⟨o, e, _⟩ := r.cell h
  rw [e]
  exact fun z => nomatch z
theorem SR.same (r : SR G C Fs σ H st) (s : Same H H1) : SR G C Fs σ H1 st :=
  ⟨r.len, fun i d e => let ⟨v, h1, h2⟩ := r.rep i d e; ⟨v, h1, h2.same s⟩, r.emp, r.ndo, r.dj, r.owno, fun a o e => s a o (r.pr a o e), r.prd, fun a e => r.up a (s.free e), r.pin, r.mo⟩

/-- what an evaluation may do: T the slots that it may change in place -/
structure Eff (T : List Nat) (Fs : Nat → List Addr) (H : Hp) (st : DSt) (Fs' : Nat → List Addr) (H' : Hp) (st' : DSt) : Prop where
  off : Off (fun a => ∃ i ∈ T, a ∈ Fs i) H H'
  same : ∀ i, i ∉ T → Fs' i = Fs i ∧ st'[i]? = st[i]?
  grow : ∀ i, ∀ a ∈ Fs' i, a ∈ Fs i ∨ H a = none
  dom : ∀ a, H' a = none → H a = none
theorem Eff.pure (s : Same H H1) (T : List Nat) : Eff T Fs H st Fs H1 st :=
  ⟨offSame s, fun _ _ => ⟨rfl, rfl⟩, fun _ _ h => .inl h, fun _ e => s.free e⟩
theorem Eff.trans {T U : List Nat} (a : Eff T Fs H st Fs1 H1 st1) (b : Eff U Fs1 H1 st1 Fs2 H2 st2) : Eff (T ++ U) Fs H st Fs2 H2 st2 := by
  refine ⟨fun x o e n => ?_, fun i h => ?_, fun i x h => ?_, fun x e => a.dom x (b.dom x e)⟩
  · have e1 := a.off x o e fun ⟨i, hi, q⟩ => n ⟨i, List.mem_append_left _ hi, q⟩
    refine b.off x o e1 fun ⟨i, hi, q⟩ => ?_
    rcases a.grow i x q with z | z
    · exact n ⟨i, List.mem_append_right _ hi, z⟩
    · rw [e] at z
      cases z
  · have h1 : i ∉ T := fun z => h (List.mem_append_left _ z)
    have h2 : i ∉ U := fun z => h (List.mem_append_right _ z)
    exact ⟨(b.same i h2).1.trans (a.same i h1).1, (b.same i h2).2.trans (a.same i h1).2⟩
  · rcases b.grow i x h with z | z
    · exact a.grow i x z
    · exact .inr (a.dom x z)
theorem Eff.more {T U : List Nat} (a : Eff T Fs H st Fs1 H1 st1) (h : ∀ i ∈ T, i ∈ U) : Eff U Fs H st Fs1 H1 st1 :=
  ⟨a.off.mono fun x ⟨i, hi, q⟩ => ⟨i, h i hi, q⟩, fun i n => a.same i fun z => n (h i z), a.grow, a.dom⟩

/-- what is known of a result's cells: it may share with the slots S only; o: with none, all are new -/
structure Res (M S : List Nat) (o : Bool) (H : Hp) (Fs' : Nat → List Addr) (F : List Addr) : Prop where
  sh : ∀ i ∈ M, i ∉ S → ∀ a ∈ F, a ∉ Fs' i
  nd : o = true → F.Nodup
  nw : o = true → ∀ a ∈ F, H a = none
  ap : o = true → ∀ i, ∀ a ∈ F, a ∉ Fs' i
theorem Res.nil {M S : List Nat} {o : Bool} : Res M S o H Fs [] :=
  ⟨(fun _ _ _ _ h => nomatch h), fun _ => List.nodup_nil, (fun _ _ h => nomatch h), (fun _ _ _ h => nomatch h)⟩
/-- cells that are new at a state whose slots lie in it -/
theorem Res.new (r : SR G C Fs σ H st) {M S : List Nat} {o : Bool} {F : List Addr} (nd : F.Nodup) (nw : ∀ a ∈ F, H a = none) : Res M S o H Fs F :=
  ⟨fun i _ _ a h q => r.dom q (nw a h), fun _ => nd, fun _ => nw, fun _ i a h q => r.dom q (nw a h)⟩

/-- an expression: from the frame's data to its value and the frame's data behind it.
    Xs: the contexts (a def's body, or all turns of a comprehension's block); T: the slots whose data it may change in place; S: the slots with which its value may share; o: the value is new -/
def EV {ι : Type} (G : Gd) (Xs : ι → Cx) (M T S : List Nat) (o : Bool) (e : Expr) (g : DSt → Option (D × DSt)) : Prop :=
  ∃ t, (∀ j, PE (Xs j) e t) ∧ ∀ (C : Act) (Fs : Nat → List Addr) (σ : St) (H : Hp) (st : DSt) (d : D) (st' : DSt) (Q : VK), C.M = M → SR G C Fs σ H st → g st = some (d, st') →
    (∀ v H' F Fs', SR G C Fs' σ H' st' → Rep G H' d v F → Eff T Fs H st Fs' H' st' → Res M S o H Fs' F → Q v H') → t σ H Q
/-- an argument list -/
def EA {ι : Type} (G : Gd) (Xs : ι → Cx) (M T S : List Nat) (o : Bool) (es : List Expr) (g : DSt → Option (List D × DSt)) : Prop :=
  ∃ t, (∀ j, PA (Xs j) es t) ∧ ∀ (C : Act) (Fs : Nat → List Addr) (σ : St) (H : Hp) (st : DSt) (ds : List D) (st' : DSt) (Q : List V → Hp → Prop), C.M = M → SR G C Fs σ H st → g st = some (ds, st') →
    (∀ vs H' F Fs', SR G C Fs' σ H' st' → RepL G H' ds vs F → Eff T Fs H st Fs' H' st' → Res M S o H Fs' F → Q vs H') → t σ H Q
/-- a test -/
def ET {ι : Type} (G : Gd) (Xs : ι → Cx) (M T : List Nat) (e : Expr) (g : DSt → Option (Bool × DSt)) : Prop :=
  ∃ t, (∀ j, PT (Xs j) e t) ∧ ∀ (C : Act) (Fs : Nat → List Addr) (σ : St) (H : Hp) (st : DSt) (b : Bool) (st' : DSt) (Q : Bool → Hp → Prop), C.M = M → SR G C Fs σ H st → g st = some (b, st') →
    (∀ H' Fs', SR G C Fs' σ H' st' → Eff T Fs H st Fs' H' st' → Q b H') → t σ H Q

/-- what is held while the slots of U change -/
theorem Rep.held {U M S : List Nat} {o : Bool} {d : D} {v : V} {F : List Addr} {H0 : Hp} (hM : C.M = M) (r1 : SR G C Fs1 σ H1 st1) (r : Rep G H1 d v F) (q : Res M S o H0 Fs1 F) (b : Eff U Fs1 H1 st1 Fs2 H2 st2) (hU : ∀ i ∈ U, i ∈ M ∧ i ∉ S) : Rep G H2 d v F := by
  refine r.off (W := fun a => ∃ i ∈ U, a ∈ Fs1 i) (fun a ⟨i, _, h⟩ => r1.cell h) b.off fun a h ⟨i, hi, z⟩ => ?_
  exact q.sh i (hU i hi).1 (hU i hi).2 a h z
theorem RepL.held {U M S : List Nat} {o : Bool} {d : List D} {v : List V} {F : List Addr} {H0 : Hp} (hM : C.M = M) (r1 : SR G C Fs1 σ H1 st1) (r : RepL G H1 d v F) (q : Res M S o H0 Fs1 F) (b : Eff U Fs1 H1 st1 Fs2 H2 st2) (hU : ∀ i ∈ U, i ∈ M ∧ i ∉ S) : RepL G H2 d v F := by
  refine r.off (W := fun a => ∃ i ∈ U, a ∈ Fs1 i) (fun a ⟨i, _, h⟩ => r1.cell h) b.off fun a h ⟨i, hi, z⟩ => ?_
  exact q.sh i (hU i hi).1 (hU i hi).2 a h z
theorem Res.held {U M S : List Nat} {o : Bool} {F : List Addr} {H0 : Hp} (q : Res M S o H0 Fs1 F) (b : Eff U Fs1 H1 st1 Fs2 H2 st2) (hd : ∀ a ∈ F, H1 a ≠ none) : Res M S o H0 Fs2 F := by
  refine ⟨fun i hi hs a h z => ?_, q.nd, q.nw, fun ho i a h z => ?_⟩
  · rcases b.grow i a z with z | z
    · exact q.sh i hi hs a h z
    · exact hd a h z
  · rcases b.grow i a z with z | z
    · exact q.ap ho i a h z
    · exact hd a h z
end
/-- the slots that change are places of M and not among S: by decide -/
def Ok (M S U : List Nat) : Bool := U.all fun i => M.contains i && !S.contains i
theorem Ok.of {M S U : List Nat} (h : Ok M S U = true) : ∀ i ∈ U, i ∈ M ∧ i ∉ S := fun i hi => by
  have q := List.all_eq_true.mp h i hi
  simp only [Bool.and_eq_true, Bool.not_eq_true', List.contains_eq_mem, decide_eq_true_eq, decide_eq_false_iff_not] at q
  exact q
end VL

/-! The value layer, part C: expressions. -/
namespace VL
open PySem PySem.Spec L2 D

/-! ### combinators -/
def gPure (d : D) : DSt → Option (D × DSt) := fun st => some (d, st)
def gVar (i : Nat) : DSt → Option (D × DSt) := fun st => match st[i]? with
  | some (some d) => some (d, st)
  | _ => none
def gImm (g : DSt → Option (D × DSt)) : DSt → Option (D × DSt) := fun st => (g st).bind fun p => if p.1.imm = true then some p else none
def g1 (f : D → Option D) (ga : DSt → Option (D × DSt)) : DSt → Option (D × DSt) := fun st => (ga st).bind fun p => (f p.1).map fun z => (z, p.2)
def g2 (f : D → D → Option D) (ga gb : DSt → Option (D × DSt)) : DSt → Option (D × DSt) := fun st => (ga st).bind fun p => (gb p.2).bind fun q => (f p.1 q.1).map fun z => (z, q.2)
def gN (f : List D → Option D) (ga : DSt → Option (List D × DSt)) : DSt → Option (D × DSt) := fun st => (ga st).bind fun p => (f p.1).map fun z => (z, p.2)
def gNil : DSt → Option (List D × DSt) := fun st => some ([], st)
def gCons (ga : DSt → Option (D × DSt)) (gr : DSt → Option (List D × DSt)) : DSt → Option (List D × DSt) := fun st => (ga st).bind fun p => (gr p.2).bind fun q => some (p.1 :: q.1, q.2)
def toB : D → Option Bool
  | .bl b => some b
  | _ => none
def tB (g : DSt → Option (D × DSt)) : DSt → Option (Bool × DSt) := fun st => (g st).bind fun p => (toB p.1).map fun b => (b, p.2)
/-- truth -/
def tru : D → Option Bool
  | .non => some false
  | .bl b => some b
  | .int i => some (i != 0)
  | .tup ds => some (!ds.isEmpty)
  | .lst ds => some (!ds.isEmpty)
  | _ => none
def tTru (g : DSt → Option (D × DSt)) : DSt → Option (Bool × DSt) := fun st => (g st).bind fun p => (tru p.1).map fun b => (b, p.2)
def tAnd (ga gb : DSt → Option (Bool × DSt)) : DSt → Option (Bool × DSt) := fun st => (ga st).bind fun p => if p.1 = true then gb p.2 else some (false, p.2)
def tOr (ga gb : DSt → Option (Bool × DSt)) : DSt → Option (Bool × DSt) := fun st => (ga st).bind fun p => if p.1 = true then some (true, p.2) else gb p.2
def tNot (ga : DSt → Option (Bool × DSt)) : DSt → Option (Bool × DSt) := fun st => (ga st).map fun p => (!p.1, p.2)
def gIf (gc : DSt → Option (Bool × DSt)) (ga gb : DSt → Option (D × DSt)) : DSt → Option (D × DSt) := fun st => (gc st).bind fun p => if p.1 = true then ga p.2 else gb p.2
def gAndV (ga gb : DSt → Option (D × DSt)) : DSt → Option (D × DSt) := fun st => (ga st).bind fun p => (toB p.1).bind fun b => if b = true then gb p.2 else some (.bl false, p.2)
def gOrV (ga gb : DSt → Option (D × DSt)) : DSt → Option (D × DSt) := fun st => (ga st).bind fun p => (toB p.1).bind fun b => if b = true then some (.bl true, p.2) else gb p.2
def gChain (f f' : D → D → Option D) (ga gb gc : DSt → Option (D × DSt)) : DSt → Option (D × DSt) := fun st => (ga st).bind fun p => (gb p.2).bind fun q => (f p.1 q.1).bind fun z => (toB z).bind fun k =>
  if k = true then (gc q.2).bind fun r => (f' q.1 r.1).map fun z' => (z', r.2) else some (.bl false, q.2)
def fTup (ds : List D) : Option D := if ds.length ≤ 1000 then some (.tup ds) else none
def fLst (ds : List D) : Option D := if ds.length ≤ 1000 then some (.lst ds) else none

/-! ### what a combinator that ends tells -/
section
variable {f f' : D → D → Option D} {h : D → Option D} {hN : List D → Option D} {ga gb gc : DSt → Option (D × DSt)} {gs : DSt → Option (List D × DSt)} {st st' : DSt} {z : D} {zs : List D} {k : Bool}
theorem g1_some (e : g1 h ga st = some (z, st')) : ∃ x, ga st = some (x, st') ∧ h x = some z := by
  unfold g1 at e
  obtain ⟨⟨x, s1⟩, e1, e⟩ := Option.bind_eq_some_iff.mp e
  obtain ⟨y, e3, e⟩ := Option.map_eq_some_iff.mp e
  cases e
  exact ⟨x, e1, e3⟩
theorem g2_some (e : g2 f ga gb st = some (z, st')) : ∃ x s1 y, ga st = some (x, s1) ∧ gb s1 = some (y, st') ∧ f x y = some z := by
  unfold g2 at e
  obtain ⟨⟨x, s1⟩, e1, e⟩ := Option.bind_eq_some_iff.mp e
  obtain ⟨⟨y, s2⟩, e2, e⟩ := Option.bind_eq_some_iff.mp e
  obtain ⟨w, e3, e⟩ := Option.map_eq_some_iff.mp e
  cases e
  exact ⟨x, s1, y, e1, e2, e3⟩
theorem gN_some (e : gN hN gs st = some (z, st')) : ∃ xs, gs st = some (xs, st') ∧ hN xs = some z := by
  unfold gN at e
  obtain ⟨⟨x, s1⟩, e1, e⟩ := Option.bind_eq_some_iff.mp e
  obtain ⟨y, e3, e⟩ := Option.map_eq_some_iff.mp e
  cases e
  exact ⟨x, e1, e3⟩
theorem gCons_some (e : gCons ga gs st = some (zs, st')) : ∃ x s1 ys, ga st = some (x, s1) ∧ gs s1 = some (ys, st') ∧ zs = x :: ys := by
  unfold gCons at e
  obtain ⟨⟨x, s1⟩, e1, e⟩ := Option.bind_eq_some_iff.mp e
  obtain ⟨⟨ys, s2⟩, e2, e⟩ := Option.bind_eq_some_iff.mp e
  cases e
  exact ⟨x, s1, ys, e1, e2, rfl⟩
theorem tB_some (e : tB ga st = some (k, st')) : ga st = some (.bl k, st') := by
  unfold tB at e
  obtain ⟨⟨x, s1⟩, e1, e⟩ := Option.bind_eq_some_iff.mp e
  obtain ⟨y, e3, e⟩ := Option.map_eq_some_iff.mp e
  cases e
  cases x <;> simp [toB] at e3
  rw [e1, e3]
theorem tTru_some (e : tTru ga st = some (k, st')) : ∃ x, ga st = some (x, st') ∧ tru x = some k := by
  unfold tTru at e
  obtain ⟨⟨x, s1⟩, e1, e⟩ := Option.bind_eq_some_iff.mp e
  obtain ⟨y, e3, e⟩ := Option.map_eq_some_iff.mp e
  cases e
  exact ⟨x, e1, e3⟩
theorem gChain_some (e : gChain f f' ga gb gc st = some (z, st')) : ∃ x s1 y s2 k, ga st = some (x, s1) ∧ gb s1 = some (y, s2) ∧ f x y = some (.bl k) ∧ ((k = true ∧ ∃ w, gc s2 = some (w, st') ∧ f' y w = some z) ∨ (k = false ∧ z = .bl false ∧ st' = s2)) := by
  unfold gChain at e
  obtain ⟨⟨x, s1⟩, e1, e⟩ := Option.bind_eq_some_iff.mp e
  obtain ⟨⟨y, s2⟩, e2, e⟩ := Option.bind_eq_some_iff.mp e
  obtain ⟨w, e3, e⟩ := Option.bind_eq_some_iff.mp e
  obtain ⟨k, e4, e⟩ := Option.bind_eq_some_iff.mp e
  have ew : w = .bl k := by
    cases w <;> simp [toB] at e4
    rw [e4]
  subst ew
  refine ⟨x, s1, y, s2, k, e1, e2, e3, ?_⟩
  cases k with
  | false =>
    have e' : some (D.bl false, s2) = some (z, st') := e
    cases e'
    exact .inr ⟨rfl, rfl, rfl⟩
  | true =>
    have e' : ((gc s2).bind fun r => (f' y r.1).map fun z' => (z', r.2)) = some (z, st') := e
    obtain ⟨⟨y', s3⟩, e5, e⟩ := Option.bind_eq_some_iff.mp e'
    obtain ⟨w, e6, e⟩ := Option.map_eq_some_iff.mp e
    cases e
    exact .inl ⟨rfl, y', e5, e6⟩
end

/-! ### rules of operations, by values -/
/-- a value that comes out new -/
def Fresh (G : Gd) (H : Hp) (d : D) (Q : VK) : Prop := ∀ v H' F, Same H H' → Rep G H' d v F → F.Nodup → (∀ a ∈ F, H a = none) → Q v H'
def OP2 {ι : Type} (G : Gd) (Xs : ι → Cx) (f : Value → Value → Sem Value) (op : D → D → Option D) : Prop := ∃ r : R2, (∀ j, OpR (Xs j) f r) ∧
  ∀ H d e z v u F F' Q, Rep G H d v F → Rep G H e u F' → op d e = some z → Fresh G H z Q → r v u H Q
def OP1 {ι : Type} (G : Gd) (Xs : ι → Cx) (f : Value → Sem Value) (op : D → Option D) : Prop := ∃ r, (∀ j, UnR (Xs j) f r) ∧ ∀ H d z v F Q, Rep G H d v F → op d = some z → Fresh G H z Q → r v H Q
def CB {ι : Type} (G : Gd) (Xs : ι → Cx) (f : Value) (op : List D → Option D) : Prop := ∃ r, (∀ j, CallR (Xs j) f r) ∧ ∀ H ds z vs F Q, RepL G H ds vs F → op ds = some z → Fresh G H z Q → r vs H Q
/-- a part of a thing -/
def IX {ι : Type} (G : Gd) (Xs : ι → Cx) (op : D → D → Option D) : Prop := ∃ r : R2, (∀ j, IxR (Xs j) r) ∧
  ∀ H d e z v u F F' Q, Rep G H d v F → Rep G H e u F' → op d e = some z → (∀ v H' F2, Same H H' → Rep G H' z v F2 → (∀ a ∈ F2, a ∈ F) → Q v H') → r v u H Q
def orD (f g : D → D → Option D) : D → D → Option D := fun a b => match f a b with
  | some z => some z
  | none => g a b
theorem OP2.or {ι : Type} {G : Gd} {Xs : ι → Cx} {f : Value → Value → Sem Value} {op op' : D → D → Option D} (h : OP2 G Xs f op) (h' : OP2 G Xs f op') : OP2 G Xs f (orD op op') := by
  obtain ⟨r, hr, k⟩ := h
  obtain ⟨r', hr', k'⟩ := h'
  refine ⟨_, fun j => (hr j).or (hr' j), fun H d e z v u F F' Q rd re hz fr => ?_⟩
  unfold orD at hz
  cases q : op d e with
  | some y =>
    rw [q] at hz
    cases hz
    exact .inl (k H d e z v u F F' Q rd re q fr)
  | none =>
    rw [q] at hz
    exact .inr (k' H d e z v u F F' Q rd re hz fr)
theorem IX.or {ι : Type} {G : Gd} {Xs : ι → Cx} {op op' : D → D → Option D} (h : IX G Xs op) (h' : IX G Xs op') : IX G Xs (orD op op') := by
  obtain ⟨r, hr, k⟩ := h
  obtain ⟨r', hr', k'⟩ := h'
  refine ⟨_, fun j => (hr j).or (hr' j), fun H d e z v u F F' Q rd re hz fr => ?_⟩
  unfold orD at hz
  cases q : op d e with
  | some y =>
    rw [q] at hz
    cases hz
    exact .inl (k H d e z v u F F' Q rd re q fr)
  | none =>
    rw [q] at hz
    exact .inr (k' H d e z v u F F' Q rd re hz fr)

section
variable {ι : Type} {G : Gd} {Xs : ι → Cx} {M T S Ta Tb Tc Sa Sb Sc : List Nat} {o oa ob oc : Bool} {a b c e : Expr} {es : List Expr} {ga gb gc g : DSt → Option (D × DSt)} {ta tb tc : DSt → Option (Bool × DSt)} {gs : DSt → Option (List D × DSt)} {pos : Pos}

theorem Res.weak {M S S' : List Nat} {o o' : Bool} {H : Hp} {Fs : Nat → List Addr} {F : List Addr} (q : Res M S o H Fs F) (hS : ∀ i ∈ S, i ∈ S') (ho : o' = true → o = true) : Res M S' o' H Fs F :=
  ⟨fun i hi hs => q.sh i hi fun z => hs (hS i z), fun z => q.nd (ho z), fun z => q.nw (ho z), fun z => q.ap (ho z)⟩

theorem ev_weak (h : EV G Xs M T S o e g) {T' S' : List Nat} {o' : Bool} (hT : ∀ i ∈ T, i ∈ T') (hS : ∀ i ∈ S, i ∈ S') (ho : o' = true → o = true) : EV G Xs M T' S' o' e g := by
  obtain ⟨t, p, k⟩ := h
  exact ⟨t, p, fun C Fs σ H st d st' Q hM r hg q => k C Fs σ H st d st' Q hM r hg fun v H' F Fs' r' rd ef rs => q v H' F Fs' r' rd (ef.more hT) (rs.weak hS ho)⟩
theorem ev_imm (h : EV G Xs M T S o e g) : EV G Xs M T [] true e (gImm g) := by
  obtain ⟨t, p, k⟩ := h
  refine ⟨t, p, fun C Fs σ H st d st' Q hM r hg q => ?_⟩
  unfold gImm at hg
  obtain ⟨⟨d0, s0⟩, e0, hg⟩ := Option.bind_eq_some_iff.mp hg
  by_cases hi : d0.imm = true
  · rw [if_pos hi] at hg
    cases hg
    refine k C Fs σ H st d st' Q hM r e0 fun v H' F Fs' r' rd ef rs => ?_
    cases rd.imm hi
    exact q v H' [] Fs' r' rd ef Res.nil
  · rw [if_neg hi] at hg
    cases hg
theorem ev_pure {t : TE} {d : D} (p : ∀ j, PE (Xs j) e t) (h : ∀ σ H Q, (∀ v, Rep G H d v [] → Q v H) → t σ H Q) : EV G Xs M [] [] true e (gPure d) := by
  refine ⟨t, p, fun C Fs σ H st d' st' Q hM r hg q => ?_⟩
  cases hg
  exact h σ H Q fun v rd => q v H [] Fs r rd (Eff.pure (fun _ _ z => z) _) Res.nil
theorem ev_int {i : Int} {j pos} : EV G Xs M [] [] true (.Constant (.int i) j pos) (gPure (.int i)) := ev_pure (fun _ => pe_int) fun σ H Q h => h (V.int i) (Rep.int i)
theorem ev_bl {b : Bool} {j pos} : EV G Xs M [] [] true (.Constant (.bool b) j pos) (gPure (.bl b)) := ev_pure (fun _ => pe_bl) fun σ H Q h => h (V.bl b) (Rep.bl b)
theorem ev_str {x : Str} {j pos} : EV G Xs M [] [] true (.Constant (.str x) j pos) (gPure (.str x)) := ev_pure (fun _ => pe_str) fun σ H Q h => h (V.str x) (Rep.str x)
theorem ev_non {j pos} : EV G Xs M [] [] true (.Constant .none j pos) (gPure .non) := ev_pure (fun _ => pe_non) fun σ H Q h => h V.non Rep.non

theorem ev_name (i : Nat) {x : Str} (S : List Nat) (p : ∀ j, PE (Xs j) (.Name x pos) (tVar i)) (hS : (M.contains i = false ∨ S.contains i = true)) : EV G Xs M [] S false (.Name x pos) (gVar i) := by
  refine ⟨tVar i, p, fun C Fs σ H st d st' Q hM r hg q => ?_⟩
  unfold gVar at hg
  have e : st[i]? = some (some d) ∧ st' = st := by
    cases z : st[i]? with
    | none =>
      rw [z] at hg
      cases hg
    | some y =>
      rw [z] at hg
      cases y with
      | none => cases hg
      | some d' =>
        cases hg
        exact ⟨rfl, rfl⟩
  obtain ⟨e, rfl⟩ := e
  obtain ⟨v, hv, rd⟩ := r.rep i d e
  refine ⟨v, hv, q v H (Fs i) Fs r rd (Eff.pure (fun _ _ z => z) _) ⟨fun j hj hs a ha hz => ?_, fun z => (Bool.noConfusion z), fun z => (Bool.noConfusion z), fun z => (Bool.noConfusion z)⟩⟩
  by_cases ji : i = j
  · subst ji
    rcases hS with z | z
    · rw [List.contains_eq_mem, decide_eq_false_iff_not] at z
      exact z hj
    · rw [List.contains_eq_mem, decide_eq_true_eq] at z
      exact hs z
  · exact r.dj j (hM ▸ hj) i ji a hz ha

theorem Res.fresh {C : Act} {Fs Fs' : Nat → List Addr} {σ : St} {H H1 : Hp} {st st1 : DSt} {F : List Addr} {T : List Nat} (r1 : SR G C Fs' σ H1 st1) (ef : Eff T Fs H st Fs' H1 st1) (nd : F.Nodup) (nw : ∀ a ∈ F, H1 a = none) : Res M S o H Fs' F :=
  ⟨fun i hi hs a h z => r1.dom z (nw a h), fun _ => nd, fun _ a h => ef.dom a (nw a h), fun _ i a h z => r1.dom z (nw a h)⟩

/-- two values, one behind the other, and an operation -/
theorem two {t1 t2 : TE} {f : D → D → Option D} {r : R2} (k1 : ∀ (C : Act) (Fs : Nat → List Addr) (σ : St) (H : Hp) (st : DSt) (d : D) (st' : DSt) (Q : VK), C.M = M → SR G C Fs σ H st → ga st = some (d, st') →
      (∀ v H' F Fs', SR G C Fs' σ H' st' → Rep G H' d v F → Eff Ta Fs H st Fs' H' st' → Res M Sa oa H Fs' F → Q v H') → t1 σ H Q)
    (k2 : ∀ (C : Act) (Fs : Nat → List Addr) (σ : St) (H : Hp) (st : DSt) (d : D) (st' : DSt) (Q : VK), C.M = M → SR G C Fs σ H st → gb st = some (d, st') →
      (∀ v H' F Fs', SR G C Fs' σ H' st' → Rep G H' d v F → Eff Tb Fs H st Fs' H' st' → Res M Sb ob H Fs' F → Q v H') → t2 σ H Q)
    (kr : ∀ H d e z v u F F' Q, Rep G H d v F → Rep G H e u F' → f d e = some z → Fresh G H z Q → r v u H Q) (ok : Ok M Sa Tb = true)
    {C : Act} {Fs : Nat → List Addr} {σ : St} {H : Hp} {st : DSt} {z : D} {st' : DSt} {Q : VK} (hM : C.M = M) (r0 : SR G C Fs σ H st) (hg : g2 f ga gb st = some (z, st'))
    (q : ∀ v H' F Fs', SR G C Fs' σ H' st' → Rep G H' z v F → Eff (Ta ++ Tb) Fs H st Fs' H' st' → Res M [] true H Fs' F → Q v H') : t1 σ H fun x H1 => t2 σ H1 fun y H2 => r x y H2 Q := by
  obtain ⟨x, s1, y, e1, e2, e3⟩ := g2_some hg
  refine k1 C Fs σ H st x s1 _ hM r0 e1 fun v1 H1 F1 Fs1 r1 rd1 ef1 rs1 => ?_
  refine k2 C Fs1 σ H1 s1 y st' _ hM r1 e2 fun v2 H2 F2 Fs2 r2 rd2 ef2 rs2 => ?_
  refine kr H2 x y z v1 v2 F1 F2 Q (rd1.held hM r1 rs1 ef2 (Ok.of ok)) rd2 e3 fun v3 H3 F3 sm rd3 nd3 nw3 => ?_
  have ef := (ef1.trans ef2).trans (Eff.pure (st := st') (Fs := Fs2) sm [])
  rw [List.append_nil] at ef
  exact q v3 H3 F3 Fs2 (r2.same sm) rd3 ef ⟨fun i hi hs a h w => r2.dom w (nw3 a h), fun _ => nd3, fun _ a h => ef1.dom a (ef2.dom a (nw3 a h)), fun _ i a h w => r2.dom w (nw3 a h)⟩
theorem ev_op {op : Operator} {f : D → D → Option D} (ho : OP2 G Xs (binaryOp op) f) (ha : EV G Xs M Ta Sa oa a ga) (hb : EV G Xs M Tb Sb ob b gb) (ok : Ok M Sa Tb = true := by decide) :
    EV G Xs M (Ta ++ Tb) [] true (.BinOp a op b pos) (g2 f ga gb) := by
  obtain ⟨r, hr, kr⟩ := ho
  obtain ⟨t1, p1, k1⟩ := ha
  obtain ⟨t2, p2, k2⟩ := hb
  exact ⟨_, fun j => pe_op (hr j) (p1 j) (p2 j), fun C Fs σ H st d st' Q hM r0 hg q => two k1 k2 kr ok hM r0 hg q⟩
theorem ev_cmp {op : CmpOp} {f : D → D → Option D} (ho : OP2 G Xs (compareOp op) f) (ha : EV G Xs M Ta Sa oa a ga) (hb : EV G Xs M Tb Sb ob b gb) (ok : Ok M Sa Tb = true := by decide) (hm : behindInMarks op b = false := by first | exact nomark _ | rfl) :
    EV G Xs M (Ta ++ Tb) [] true (.Compare a [op] [b] pos) (g2 f ga gb) := by
  obtain ⟨r, hr, kr⟩ := ho
  obtain ⟨t1, p1, k1⟩ := ha
  obtain ⟨t2, p2, k2⟩ := hb
  exact ⟨_, fun j => pe_cmpR (hr j) (p1 j) (p2 j) hm, fun C Fs σ H st d st' Q hM r0 hg q => two k1 k2 kr ok hM r0 hg q⟩
theorem Rep.blv {G : Gd} {H : Hp} {b : Bool} {v : V} {F : List Addr} (r : Rep G H (.bl b) v F) : v = .bl b := by
  cases r
  rfl
theorem Rep.intv {G : Gd} {H : Hp} {b : Int} {v : V} {F : List Addr} (r : Rep G H (.int b) v F) : v = .int b := by
  cases r
  rfl
theorem et_cmp {op : CmpOp} {f : D → D → Option D} (ho : OP2 G Xs (compareOp op) f) (ha : EV G Xs M Ta Sa oa a ga) (hb : EV G Xs M Tb Sb ob b gb) (ok : Ok M Sa Tb = true := by decide) (hm : behindInMarks op b = false := by first | exact nomark _ | rfl) :
    ET G Xs M (Ta ++ Tb) (.Compare a [op] [b] pos) (tB (g2 f ga gb)) := by
  obtain ⟨r, hr, kr⟩ := ho
  obtain ⟨t1, p1, k1⟩ := ha
  obtain ⟨t2, p2, k2⟩ := hb
  refine ⟨_, fun j => pt_cmpR (hr j) (p1 j) (p2 j) hm, fun C Fs σ H st k st' Q hM r0 hg q => ?_⟩
  exact two k1 k2 kr ok hM r0 (tB_some hg) fun v H' F Fs' r' rd ef _ => ⟨k, rd.blv, q H' Fs' r' ef⟩
theorem isEmpty_of_length {α β : Type} {xs : List α} {ys : List β} (h : xs.length = ys.length) : xs.isEmpty = ys.isEmpty := by
  cases xs <;> cases ys <;> simp_all
/-- any expression whose test is its value's truth -/
theorem et_val (ha : EV G Xs M T S o a g) (hK : ∀ j, (Xs j).K = G.K := by intro _; rfl) (he : ∀ j whole, isTrue a (Xs j).env whole = (do let v ← whole; standAt a.pos; holding [v] (truthy v)) := by intro _ _; rfl) : ET G Xs M T a (tTru g) := by
  obtain ⟨t1, p1, k1⟩ := ha
  refine ⟨_, fun j => by have z := pt_truth (p1 j) (he j); rw [hK j] at z; exact z, fun C Fs σ H st b st' Q hM r0 hg q => ?_⟩
  obtain ⟨x, e1, ek⟩ := tTru_some hg
  refine k1 C Fs σ H st x st' _ hM r0 e1 fun v1 H1 F1 Fs1 r1 rd1 ef1 rs1 => ?_
  refine ⟨b, ?_, q H1 Fs1 r1 ef1⟩
  cases x with
  | non =>
    cases rd1
    cases ek
    rfl
  | bl c =>
    cases rd1
    cases ek
    rfl
  | int i =>
    cases rd1
    cases ek
    rfl
  | str x => simp [tru] at ek
  | tup ds =>
    cases rd1 with
    | tup h rl =>
      simp only [tru, Option.some.injEq] at ek
      exact .inr (.inl ⟨_, h, by rw [← ek, isEmpty_of_length rl.length]⟩)
  | lst ds =>
    cases rd1 with
    | lst h rl =>
      simp only [tru, Option.some.injEq] at ek
      exact .inl ⟨_, SqL.of h, by rw [← ek, isEmpty_of_length rl.length]⟩
  | dct n k => simp [tru] at ek
  | ins c f => simp [tru] at ek
  | frl c => simp [tru] at ek
end
end VL

/-! The value layer, part D: tests, displays, parts, calls of built-ins. -/
namespace VL
open PySem PySem.Spec L2 D
section
variable {f f' : D → D → Option D} {hN : List D → Option D} {ga gb gc : DSt → Option (D × DSt)} {ta tb : DSt → Option (Bool × DSt)} {gs : DSt → Option (List D × DSt)} {st st' : DSt} {z : D} {zs : List D} {k : Bool}
theorem tAnd_some (e : tAnd ta tb st = some (k, st')) : ∃ b s1, ta st = some (b, s1) ∧ ((b = true ∧ tb s1 = some (k, st')) ∨ (b = false ∧ k = false ∧ st' = s1)) := by
  unfold tAnd at e
  obtain ⟨⟨b, s1⟩, e1, e⟩ := Option.bind_eq_some_iff.mp e
  refine ⟨b, s1, e1, ?_⟩
  cases b with
  | true => exact .inl ⟨rfl, e⟩
  | false =>
    have e' : some (false, s1) = some (k, st') := e
    cases e'
    exact .inr ⟨rfl, rfl, rfl⟩
theorem tOr_some (e : tOr ta tb st = some (k, st')) : ∃ b s1, ta st = some (b, s1) ∧ ((b = false ∧ tb s1 = some (k, st')) ∨ (b = true ∧ k = true ∧ st' = s1)) := by
  unfold tOr at e
  obtain ⟨⟨b, s1⟩, e1, e⟩ := Option.bind_eq_some_iff.mp e
  refine ⟨b, s1, e1, ?_⟩
  cases b with
  | false => exact .inl ⟨rfl, e⟩
  | true =>
    have e' : some (true, s1) = some (k, st') := e
    cases e'
    exact .inr ⟨rfl, rfl, rfl⟩
theorem tNot_some (e : tNot ta st = some (k, st')) : ta st = some (!k, st') := by
  unfold tNot at e
  obtain ⟨⟨b, s1⟩, e1, e⟩ := Option.map_eq_some_iff.mp e
  cases e
  rw [e1, Bool.not_not]
theorem gIf_some (e : gIf ta ga gb st = some (z, st')) : ∃ b s1, ta st = some (b, s1) ∧ ((b = true ∧ ga s1 = some (z, st')) ∨ (b = false ∧ gb s1 = some (z, st'))) := by
  unfold gIf at e
  obtain ⟨⟨b, s1⟩, e1, e⟩ := Option.bind_eq_some_iff.mp e
  refine ⟨b, s1, e1, ?_⟩
  cases b with
  | true => exact .inl ⟨rfl, e⟩
  | false => exact .inr ⟨rfl, e⟩
theorem gAndV_some (e : gAndV ga gb st = some (z, st')) : ∃ b s1, ga st = some (.bl b, s1) ∧ ((b = true ∧ gb s1 = some (z, st')) ∨ (b = false ∧ z = .bl false ∧ st' = s1)) := by
  unfold gAndV at e
  obtain ⟨⟨x, s1⟩, e1, e⟩ := Option.bind_eq_some_iff.mp e
  obtain ⟨b, e2, e⟩ := Option.bind_eq_some_iff.mp e
  have ex : x = .bl b := by
    cases x <;> simp [toB] at e2
    rw [e2]
  subst ex
  refine ⟨b, s1, e1, ?_⟩
  cases b with
  | true => exact .inl ⟨rfl, e⟩
  | false =>
    have e' : some (D.bl false, s1) = some (z, st') := e
    cases e'
    exact .inr ⟨rfl, rfl, rfl⟩
theorem gOrV_some (e : gOrV ga gb st = some (z, st')) : ∃ b s1, ga st = some (.bl b, s1) ∧ ((b = false ∧ gb s1 = some (z, st')) ∨ (b = true ∧ z = .bl true ∧ st' = s1)) := by
  unfold gOrV at e
  obtain ⟨⟨x, s1⟩, e1, e⟩ := Option.bind_eq_some_iff.mp e
  obtain ⟨b, e2, e⟩ := Option.bind_eq_some_iff.mp e
  have ex : x = .bl b := by
    cases x <;> simp [toB] at e2
    rw [e2]
  subst ex
  refine ⟨b, s1, e1, ?_⟩
  cases b with
  | false => exact .inl ⟨rfl, e⟩
  | true =>
    have e' : some (D.bl true, s1) = some (z, st') := e
    cases e'
    exact .inr ⟨rfl, rfl, rfl⟩
end

section
variable {ι : Type} {G : Gd} {Xs : ι → Cx} {M T S Ta Tb Tc Sa Sb Sc : List Nat} {o oa ob oc : Bool} {a b c e : Expr} {es rest : List Expr} {ga gb gc g : DSt → Option (D × DSt)} {ta tb tc : DSt → Option (Bool × DSt)} {gs : DSt → Option (List D × DSt)} {pos : Pos}
/-! ### chains -/
theorem three {t1 t2 t3 : TE} {f f' : D → D → Option D} {r r' : R2} (k1 : ∀ (C : Act) (Fs : Nat → List Addr) (σ : St) (H : Hp) (st : DSt) (d : D) (st' : DSt) (Q : VK), C.M = M → SR G C Fs σ H st → ga st = some (d, st') →
      (∀ v H' F Fs', SR G C Fs' σ H' st' → Rep G H' d v F → Eff Ta Fs H st Fs' H' st' → Res M Sa oa H Fs' F → Q v H') → t1 σ H Q)
    (k2 : ∀ (C : Act) (Fs : Nat → List Addr) (σ : St) (H : Hp) (st : DSt) (d : D) (st' : DSt) (Q : VK), C.M = M → SR G C Fs σ H st → gb st = some (d, st') →
      (∀ v H' F Fs', SR G C Fs' σ H' st' → Rep G H' d v F → Eff Tb Fs H st Fs' H' st' → Res M Sb ob H Fs' F → Q v H') → t2 σ H Q)
    (k3 : ∀ (C : Act) (Fs : Nat → List Addr) (σ : St) (H : Hp) (st : DSt) (d : D) (st' : DSt) (Q : VK), C.M = M → SR G C Fs σ H st → gc st = some (d, st') →
      (∀ v H' F Fs', SR G C Fs' σ H' st' → Rep G H' d v F → Eff Tc Fs H st Fs' H' st' → Res M Sc oc H Fs' F → Q v H') → t3 σ H Q)
    (kr : ∀ H d e z v u F F' Q, Rep G H d v F → Rep G H e u F' → f d e = some z → Fresh G H z Q → r v u H Q)
    (kr' : ∀ H d e z v u F F' Q, Rep G H d v F → Rep G H e u F' → f' d e = some z → Fresh G H z Q → r' v u H Q) (ok : Ok M Sa Tb = true) (ok' : Ok M Sb Tc = true)
    {C : Act} {Fs : Nat → List Addr} {σ : St} {H : Hp} {st : DSt} {z : D} {st' : DSt} {Q : VK} (hM : C.M = M) (r0 : SR G C Fs σ H st) (hg : gChain f f' ga gb gc st = some (z, st'))
    (q : ∀ v H' F Fs', SR G C Fs' σ H' st' → Rep G H' z v F → Eff (Ta ++ (Tb ++ Tc)) Fs H st Fs' H' st' → Res M [] true H Fs' F → Q v H') : tChain r r' t1 t2 t3 σ H Q := by
  obtain ⟨x, s1, y, s2, k, e1, e2, e3, hk⟩ := gChain_some hg
  refine k1 C Fs σ H st x s1 _ hM r0 e1 fun v1 H1 F1 Fs1 r1 rd1 ef1 rs1 => ?_
  refine k2 C Fs1 σ H1 s1 y s2 _ hM r1 e2 fun v2 H2 F2 Fs2 r2 rd2 ef2 rs2 => ?_
  refine kr H2 x y (.bl k) v1 v2 F1 F2 _ (rd1.held hM r1 rs1 ef2 (Ok.of ok)) rd2 e3 fun v3 H3 F3 sm rd3 nd3 nw3 => ?_
  refine ⟨k, rd3.blv, ?_⟩
  have ef := (ef1.trans ef2).trans (Eff.pure (st := s2) (Fs := Fs2) sm [])
  have r3 := r2.same sm
  rcases hk with ⟨rfl, w, e5, e6⟩ | ⟨rfl, rfl, rfl⟩
  · rw [if_pos rfl]
    have ef3 : Eff [] Fs2 H2 s2 Fs2 H3 s2 := Eff.pure sm []
    refine k3 C Fs2 σ H3 s2 w st' _ hM r3 e5 fun v4 H4 F4 Fs4 r4 rd4 ef4 rs4 => ?_
    refine kr' H4 y w z v2 v4 F2 F4 Q ((rd2.same sm).held hM r3 (rs2.held ef3 fun a h => rd2.dom h) ef4 (Ok.of ok')) rd4 e6 fun v5 H5 F5 sm5 rd5 nd5 nw5 => ?_
    have ef6 := (ef.trans ef4).trans (Eff.pure (st := st') (Fs := Fs4) sm5 [])
    refine q v5 H5 F5 Fs4 (r4.same sm5) rd5 (ef6.more fun i hi => ?_) ⟨fun i hi hs a h w => r4.dom w (nw5 a h), fun _ => nd5, fun _ a h => ef.dom a (ef4.dom a (nw5 a h)), fun _ i a h w => r4.dom w (nw5 a h)⟩
    simp only [List.mem_append, List.not_mem_nil, or_false] at hi ⊢
    rcases hi with (hi | hi) | hi
    · exact .inl hi
    · exact .inr (.inl hi)
    · exact .inr (.inr hi)
  · rw [if_neg Bool.false_ne_true]
    refine q _ H3 [] Fs2 r3 (Rep.bl false) (ef.more fun i hi => ?_) Res.nil
    simp only [List.mem_append, List.not_mem_nil, or_false] at hi ⊢
    rcases hi with hi | hi
    · exact .inl hi
    · exact .inr (.inl hi)
theorem ev_chain {op op' : CmpOp} {f f' : D → D → Option D} (ho : OP2 G Xs (compareOp op) f) (ho' : OP2 G Xs (compareOp op') f') (ha : EV G Xs M Ta Sa oa a ga) (hb : EV G Xs M Tb Sb ob b gb) (hc : EV G Xs M Tc Sc oc c gc) (ok : Ok M Sa Tb = true := by decide) (ok' : Ok M Sb Tc = true := by decide)
    (hm : lastMarks [op, op'] [b, c] = false := by with_unfolding_all rfl) : EV G Xs M (Ta ++ (Tb ++ Tc)) [] true (.Compare a [op, op'] [b, c] pos) (gChain f f' ga gb gc) := by
  obtain ⟨r, hr, kr⟩ := ho
  obtain ⟨r', hr', kr'⟩ := ho'
  obtain ⟨t1, p1, k1⟩ := ha
  obtain ⟨t2, p2, k2⟩ := hb
  obtain ⟨t3, p3, k3⟩ := hc
  exact ⟨_, fun j => pe_chain (hr j) (hr' j) (p1 j) (p2 j) (p3 j) hm, fun C Fs σ H st d st' Q hM r0 hg q => three k1 k2 k3 kr kr' ok ok' hM r0 hg q⟩
theorem et_chain {op op' : CmpOp} {f f' : D → D → Option D} (ho : OP2 G Xs (compareOp op) f) (ho' : OP2 G Xs (compareOp op') f') (ha : EV G Xs M Ta Sa oa a ga) (hb : EV G Xs M Tb Sb ob b gb) (hc : EV G Xs M Tc Sc oc c gc) (ok : Ok M Sa Tb = true := by decide) (ok' : Ok M Sb Tc = true := by decide)
    (hm : lastMarks [op, op'] [b, c] = false := by with_unfolding_all rfl) : ET G Xs M (Ta ++ (Tb ++ Tc)) (.Compare a [op, op'] [b, c] pos) (tB (gChain f f' ga gb gc)) := by
  obtain ⟨r, hr, kr⟩ := ho
  obtain ⟨r', hr', kr'⟩ := ho'
  obtain ⟨t1, p1, k1⟩ := ha
  obtain ⟨t2, p2, k2⟩ := hb
  obtain ⟨t3, p3, k3⟩ := hc
  exact ⟨_, fun j => pt_chain (hr j) (hr' j) (p1 j) (p2 j) (p3 j) hm, fun C Fs σ H st k st' Q hM r0 hg q => three k1 k2 k3 kr kr' ok ok' hM r0 (tB_some hg) fun v H' F Fs' r' rd ef _ => ⟨k, rd.blv, q H' Fs' r' ef⟩⟩

/-! ### and, or, not -/
def EW {ι : Type} (G : Gd) (Xs : ι → Cx) (M T : List Nat) (e : Expr) (g : DSt → Option (Bool × DSt)) : Prop :=
  ∃ t, (∀ j, PW (Xs j) e t) ∧ ∀ (C : Act) (Fs : Nat → List Addr) (σ : St) (H : Hp) (st : DSt) (b : Bool) (st' : DSt) (Q : Bool → Hp → Prop), C.M = M → SR G C Fs σ H st → g st = some (b, st') →
    (∀ H' Fs', SR G C Fs' σ H' st' → Eff T Fs H st Fs' H' st' → Q b H') → t σ H Q
theorem EW.et {g : DSt → Option (Bool × DSt)} (h : EW G Xs M T e g) : ET G Xs M T e g := by
  obtain ⟨t, p, k⟩ := h
  exact ⟨t, fun j => (p j).pt, k⟩
theorem ew_and1 (h : ET G Xs M Ta a ta) : EW G Xs M Ta (.BoolOp .And [a] pos) ta := by
  obtain ⟨t, p, k⟩ := h
  exact ⟨t, fun j => pw_and1 (p j), k⟩
theorem ew_or1 (h : ET G Xs M Ta a ta) : EW G Xs M Ta (.BoolOp .Or [a] pos) ta := by
  obtain ⟨t, p, k⟩ := h
  exact ⟨t, fun j => pw_or1 (p j), k⟩
theorem ew_and (h : ET G Xs M Ta a ta) (h2 : EW G Xs M Tb (.BoolOp .And (b :: rest) pos) tb) : EW G Xs M (Ta ++ Tb) (.BoolOp .And (a :: b :: rest) pos) (tAnd ta tb) := by
  obtain ⟨t, p, k⟩ := h
  obtain ⟨t2, p2, k2⟩ := h2
  refine ⟨_, fun j => pw_and (p j) (p2 j), fun C Fs σ H st d st' Q hM r0 hg q => ?_⟩
  obtain ⟨c, s1, e1, hc⟩ := tAnd_some hg
  refine k C Fs σ H st c s1 _ hM r0 e1 fun H1 Fs1 r1 ef1 => ?_
  rcases hc with ⟨rfl, e2⟩ | ⟨rfl, rfl, rfl⟩
  · rw [if_pos rfl]
    exact k2 C Fs1 σ H1 s1 d st' _ hM r1 e2 fun H2 Fs2 r2 ef2 => q H2 Fs2 r2 (ef1.trans ef2)
  · rw [if_neg Bool.false_ne_true]
    exact q H1 Fs1 r1 (ef1.more fun i hi => List.mem_append_left _ hi)
theorem ew_or (h : ET G Xs M Ta a ta) (h2 : EW G Xs M Tb (.BoolOp .Or (b :: rest) pos) tb) : EW G Xs M (Ta ++ Tb) (.BoolOp .Or (a :: b :: rest) pos) (tOr ta tb) := by
  obtain ⟨t, p, k⟩ := h
  obtain ⟨t2, p2, k2⟩ := h2
  refine ⟨_, fun j => pw_or (p j) (p2 j), fun C Fs σ H st d st' Q hM r0 hg q => ?_⟩
  obtain ⟨c, s1, e1, hc⟩ := tOr_some hg
  refine k C Fs σ H st c s1 _ hM r0 e1 fun H1 Fs1 r1 ef1 => ?_
  rcases hc with ⟨rfl, e2⟩ | ⟨rfl, rfl, rfl⟩
  · rw [if_neg Bool.false_ne_true]
    exact k2 C Fs1 σ H1 s1 d st' _ hM r1 e2 fun H2 Fs2 r2 ef2 => q H2 Fs2 r2 (ef1.trans ef2)
  · rw [if_pos rfl]
    exact q H1 Fs1 r1 (ef1.more fun i hi => List.mem_append_left _ hi)
theorem et_not (h : ET G Xs M Ta a ta) : ET G Xs M Ta (.UnaryOp .Not a pos) (tNot ta) := by
  obtain ⟨t, p, k⟩ := h
  refine ⟨_, fun j => pt_not (p j), fun C Fs σ H st d st' Q hM r0 hg q => ?_⟩
  refine k C Fs σ H st (!d) st' _ hM r0 (tNot_some hg) fun H1 Fs1 r1 ef1 => ?_
  have q1 := q H1 Fs1 r1 ef1
  rw [← Bool.not_not d] at q1
  exact q1
theorem ev_if (hc : ET G Xs M Tc c tc) (ha : EV G Xs M Ta Sa oa a ga) (hb : EV G Xs M Tb Sb ob b gb) : EV G Xs M (Tc ++ (Ta ++ Tb)) (Sa ++ Sb) (oa && ob) (.IfExp c a b pos) (gIf tc ga gb) := by
  obtain ⟨t, p, k⟩ := hc
  obtain ⟨t1, p1, k1⟩ := ha
  obtain ⟨t2, p2, k2⟩ := hb
  refine ⟨_, fun j => pe_ifExp (p j) (p1 j) (p2 j), fun C Fs σ H st d st' Q hM r0 hg q => ?_⟩
  obtain ⟨b, s1, e1, hd⟩ := gIf_some hg
  refine k C Fs σ H st b s1 _ hM r0 e1 fun H1 Fs1 r1 ef1 => ?_
  rcases hd with ⟨rfl, e2⟩ | ⟨rfl, e2⟩
  · rw [if_pos rfl]
    refine k1 C Fs1 σ H1 s1 d st' _ hM r1 e2 fun v H2 F Fs2 r2 rd ef2 rs => ?_
    refine q v H2 F Fs2 r2 rd ((ef1.trans ef2).more fun i hi => ?_) ⟨fun i hi hs => rs.sh i hi fun z => hs (List.mem_append_left _ z), fun z => rs.nd (Bool.and_eq_true_iff.mp z).1, fun z a h => ef1.dom a (rs.nw (Bool.and_eq_true_iff.mp z).1 a h), fun z => rs.ap (Bool.and_eq_true_iff.mp z).1⟩
    rcases List.mem_append.mp hi with z | z
    · exact List.mem_append_left _ z
    · exact List.mem_append_right _ (List.mem_append_left _ z)
  · rw [if_neg Bool.false_ne_true]
    refine k2 C Fs1 σ H1 s1 d st' _ hM r1 e2 fun v H2 F Fs2 r2 rd ef2 rs => ?_
    refine q v H2 F Fs2 r2 rd ((ef1.trans ef2).more fun i hi => ?_) ⟨fun i hi hs => rs.sh i hi fun z => hs (List.mem_append_right _ z), fun z => rs.nd (Bool.and_eq_true_iff.mp z).2, fun z a h => ef1.dom a (rs.nw (Bool.and_eq_true_iff.mp z).2 a h), fun z => rs.ap (Bool.and_eq_true_iff.mp z).2⟩
    rcases List.mem_append.mp hi with z | z
    · exact List.mem_append_left _ z
    · exact List.mem_append_right _ (List.mem_append_right _ z)
theorem ev_one {op} (h : EV G Xs M Ta Sa oa a ga) : EV G Xs M Ta Sa oa (.BoolOp op [a] pos) ga := by
  obtain ⟨t, p, k⟩ := h
  exact ⟨t, fun j => pe_one (p j), k⟩
theorem ev_and (ha : EV G Xs M Ta Sa oa a ga) (hb : EV G Xs M Tb Sb ob (.BoolOp .And (b :: rest) pos) gb) : EV G Xs M (Ta ++ Tb) Sb ob (.BoolOp .And (a :: b :: rest) pos) (gAndV ga gb) := by
  obtain ⟨t1, p1, k1⟩ := ha
  obtain ⟨t2, p2, k2⟩ := hb
  refine ⟨_, fun j => pe_and (p1 j) (p2 j), fun C Fs σ H st d st' Q hM r0 hg q => ?_⟩
  obtain ⟨c, s1, e1, hc⟩ := gAndV_some hg
  refine k1 C Fs σ H st _ s1 _ hM r0 e1 fun v H1 F Fs1 r1 rd ef1 rs => ?_
  refine ⟨c, rd.blv, ?_⟩
  rcases hc with ⟨rfl, e2⟩ | ⟨rfl, rfl, rfl⟩
  · rw [if_pos rfl]
    exact k2 C Fs1 σ H1 s1 d st' _ hM r1 e2 fun v H2 F Fs2 r2 rd ef2 rs => q v H2 F Fs2 r2 rd (ef1.trans ef2) ⟨rs.sh, rs.nd, fun z a h => ef1.dom a (rs.nw z a h), rs.ap⟩
  · rw [if_neg Bool.false_ne_true]
    exact q _ H1 [] Fs1 r1 (Rep.bl false) (ef1.more fun i hi => List.mem_append_left _ hi) Res.nil
theorem ev_or (ha : EV G Xs M Ta Sa oa a ga) (hb : EV G Xs M Tb Sb ob (.BoolOp .Or (b :: rest) pos) gb) : EV G Xs M (Ta ++ Tb) Sb ob (.BoolOp .Or (a :: b :: rest) pos) (gOrV ga gb) := by
  obtain ⟨t1, p1, k1⟩ := ha
  obtain ⟨t2, p2, k2⟩ := hb
  refine ⟨_, fun j => pe_or (p1 j) (p2 j), fun C Fs σ H st d st' Q hM r0 hg q => ?_⟩
  obtain ⟨c, s1, e1, hc⟩ := gOrV_some hg
  refine k1 C Fs σ H st _ s1 _ hM r0 e1 fun v H1 F Fs1 r1 rd ef1 rs => ?_
  refine ⟨c, rd.blv, ?_⟩
  rcases hc with ⟨rfl, e2⟩ | ⟨rfl, rfl, rfl⟩
  · rw [if_neg Bool.false_ne_true]
    exact k2 C Fs1 σ H1 s1 d st' _ hM r1 e2 fun v H2 F Fs2 r2 rd ef2 rs => q v H2 F Fs2 r2 rd (ef1.trans ef2) ⟨rs.sh, rs.nd, fun z a h => ef1.dom a (rs.nw z a h), rs.ap⟩
  · rw [if_pos rfl]
    exact q _ H1 [] Fs1 r1 (Rep.bl true) (ef1.more fun i hi => List.mem_append_left _ hi) Res.nil
def fNot : D → Option D
  | .bl b => some (.bl (!b))
  | _ => none
theorem ev_not (ha : EV G Xs M Ta Sa oa a ga) : EV G Xs M Ta [] true (.UnaryOp .Not a pos) (g1 fNot ga) := by
  obtain ⟨t1, p1, k1⟩ := ha
  refine ⟨_, fun j => pe_not (p1 j), fun C Fs σ H st d st' Q hM r0 hg q => ?_⟩
  obtain ⟨x, e1, e2⟩ := g1_some hg
  have ex : ∃ b, x = .bl b ∧ d = .bl (!b) := by
    cases x <;> simp [fNot] at e2
    exact ⟨_, rfl, e2.symm⟩
  obtain ⟨b, rfl, rfl⟩ := ex
  exact k1 C Fs σ H st _ st' _ hM r0 e1 fun v H1 F Fs1 r1 rd ef1 rs => ⟨b, rd.blv, q _ H1 [] Fs1 r1 (Rep.bl (!b)) ef1 Res.nil⟩
theorem ev_un {op : UnaryOp} {f : D → Option D} (ho : OP1 G Xs (unaryOp op) f) (ha : EV G Xs M Ta Sa oa a ga) : EV G Xs M Ta [] true (.UnaryOp op a pos) (g1 f ga) := by
  obtain ⟨r, hr, kr⟩ := ho
  obtain ⟨t1, p1, k1⟩ := ha
  refine ⟨_, fun j => pe_un (hr j) (p1 j), fun C Fs σ H st d st' Q hM r0 hg q => ?_⟩
  obtain ⟨x, e1, e2⟩ := g1_some hg
  refine k1 C Fs σ H st x st' _ hM r0 e1 fun v1 H1 F1 Fs1 r1 rd1 ef1 rs1 => ?_
  refine kr H1 x d v1 F1 Q rd1 e2 fun v3 H3 F3 sm rd3 nd3 nw3 => ?_
  have ef := ef1.trans (Eff.pure (st := st') (Fs := Fs1) sm [])
  rw [List.append_nil] at ef
  exact q v3 H3 F3 Fs1 (r1.same sm) rd3 ef ⟨fun i hi hs a h w => r1.dom w (nw3 a h), fun _ => nd3, fun _ a h => ef1.dom a (nw3 a h), fun _ i a h w => r1.dom w (nw3 a h)⟩

/-! ### argument lists, displays -/
theorem ea_nil : EA G Xs M [] [] true [] gNil := by
  refine ⟨tNil, fun _ => pa_nil, fun C Fs σ H st ds st' Q hM r0 hg q => ?_⟩
  cases hg
  exact q [] H [] Fs r0 .nil (Eff.pure (fun _ _ z => z) _) Res.nil
theorem ea_cons (ha : EV G Xs M Ta Sa oa e ga) (hr : EA G Xs M Tb Sb ob es gs) (ok : Ok M Sa Tb = true := by decide) (hs : ∀ j, starEach (e :: es) (Xs j).env = (false, eval e (Xs j).env) :: starEach es (Xs j).env := by intro _; rfl) : EA G Xs M (Ta ++ Tb) (Sa ++ Sb) (oa && ob) (e :: es) (gCons ga gs) := by
  obtain ⟨t1, p1, k1⟩ := ha
  obtain ⟨t2, p2, k2⟩ := hr
  refine ⟨_, fun j => pa_cons (p1 j) (p2 j) (hs j), fun C Fs σ H st ds st' Q hM r0 hg q => ?_⟩
  obtain ⟨x, s1, ys, e1, e2, rfl⟩ := gCons_some hg
  refine k1 C Fs σ H st x s1 _ hM r0 e1 fun v1 H1 F1 Fs1 r1 rd1 ef1 rs1 => ?_
  refine k2 C Fs1 σ H1 s1 ys st' _ hM r1 e2 fun v2 H2 F2 Fs2 r2 rd2 ef2 rs2 => ?_
  have rd1' := rd1.held hM r1 rs1 ef2 (Ok.of ok)
  have rs1' := rs1.held ef2 fun a h => rd1.dom h
  refine q _ H2 _ Fs2 r2 (.cons rd1' rd2) (ef1.trans ef2) ⟨fun i hi hs a h z => ?_, fun z => ?_, fun z a h => ?_, fun z i a h w => ?_⟩
  · rcases List.mem_append.mp h with h | h
    · exact rs1'.sh i hi (fun w => hs (List.mem_append_left _ w)) a h z
    · exact rs2.sh i hi (fun w => hs (List.mem_append_right _ w)) a h z
  · obtain ⟨z1, z2⟩ := Bool.and_eq_true_iff.mp z
    refine List.nodup_append.mpr ⟨rs1.nd z1, rs2.nd z2, fun a ha b hb e => ?_⟩
    subst e
    exact rd1.dom ha (rs2.nw z2 a hb)
  · obtain ⟨z1, z2⟩ := Bool.and_eq_true_iff.mp z
    rcases List.mem_append.mp h with h | h
    · exact rs1.nw z1 a h
    · exact ef1.dom a (rs2.nw z2 a h)
  · obtain ⟨z1, z2⟩ := Bool.and_eq_true_iff.mp z
    rcases List.mem_append.mp h with h | h
    · exact rs1'.ap z1 i a h w
    · exact rs2.ap z2 i a h w
theorem small_line {n : Nat} (h : n ≤ 1000) : n ≤ sizeLine := Nat.le_trans h (by rw [sizeLine_eq]; decide)
theorem same_upd {H : Hp} {p : Addr} {u : HO} (h : H p = none) : Same H (upd H p u) := fun b w z => by
  rw [upd_ne (ne_of_none z h)]
  exact z
theorem ev_tup {k : Nat} (h : EA G Xs M T S o es gs) : EV G Xs M T S o (.Tuple es k pos) (gN fTup gs) := by
  obtain ⟨t, p, kk⟩ := h
  refine ⟨_, fun j => pe_tup (p j), fun C Fs σ H st d st' Q hM r0 hg q => ?_⟩
  obtain ⟨xs, e1, e2⟩ := gN_some hg
  unfold fTup at e2
  by_cases hl : xs.length ≤ 1000
  · rw [if_pos hl] at e2
    cases e2
    refine kk C Fs σ H st xs st' _ hM r0 e1 fun vs H1 F1 Fs1 r1 rd1 ef1 rs1 => ?_
    refine ⟨small_line (by rw [← rd1.length]; exact hl), fun p hp => ?_⟩
    have sm := same_upd (u := .tup vs) hp
    have ef := ef1.trans (Eff.pure (st := st') (Fs := Fs1) sm [])
    rw [List.append_nil] at ef
    exact q _ _ F1 Fs1 (r1.same sm) (.tup (SqT.of upd_same) (rd1.same sm)) ef rs1
  · rw [if_neg hl] at e2
    cases e2
theorem ev_lst (h : EA G Xs M T S o es gs) : EV G Xs M T S o (.List es pos) (gN fLst gs) := by
  obtain ⟨t, p, kk⟩ := h
  refine ⟨_, fun j => pe_lst (p j), fun C Fs σ H st d st' Q hM r0 hg q => ?_⟩
  obtain ⟨xs, e1, e2⟩ := gN_some hg
  unfold fLst at e2
  by_cases hl : xs.length ≤ 1000
  · rw [if_pos hl] at e2
    cases e2
    refine kk C Fs σ H st xs st' _ hM r0 e1 fun vs H1 F1 Fs1 r1 rd1 ef1 rs1 => ?_
    refine ⟨small_line (by rw [← rd1.length]; exact hl), fun p hp => ?_⟩
    have sm := same_upd (u := .lst vs) hp
    have ef := ef1.trans (Eff.pure (st := st') (Fs := Fs1) sm [])
    rw [List.append_nil] at ef
    refine q _ _ (p :: F1) Fs1 (r1.same sm) (.lst upd_same (rd1.same sm)) ef ⟨fun i hi hs a h w => ?_, fun z => ?_, fun z a h => ?_, fun z i a h w => ?_⟩
    · rcases List.mem_cons.mp h with rfl | h
      · exact r1.dom w hp
      · exact rs1.sh i hi hs a h w
    · exact List.nodup_cons.mpr ⟨fun w => rd1.dom w hp, rs1.nd z⟩
    · rcases List.mem_cons.mp h with rfl | h
      · exact ef1.dom _ hp
      · exact rs1.nw z a h
    · rcases List.mem_cons.mp h with rfl | h
      · exact r1.dom w hp
      · exact rs1.ap z i a h w
  · rw [if_neg hl] at e2
    cases e2

/-! ### parts -/
theorem ev_ix {f : D → D → Option D} (hi : IX G Xs f) (ha : EV G Xs M Ta Sa oa a ga) (hb : EV G Xs M Tb Sb ob b gb) (ok : Ok M Sa Tb = true := by decide) (hs : PlainIx b := by exact fun _ _ => rfl) : EV G Xs M (Ta ++ Tb) Sa false (.Subscript a b pos) (g2 f ga gb) := by
  obtain ⟨r, hr, kr⟩ := hi
  obtain ⟨t1, p1, k1⟩ := ha
  obtain ⟨t2, p2, k2⟩ := hb
  refine ⟨_, fun j => pe_ix (hr j) (p1 j) (p2 j) hs, fun C Fs σ H st d st' Q hM r0 hg q => ?_⟩
  obtain ⟨x, s1, y, e1, e2, e3⟩ := g2_some hg
  refine k1 C Fs σ H st x s1 _ hM r0 e1 fun v1 H1 F1 Fs1 r1 rd1 ef1 rs1 => ?_
  refine k2 C Fs1 σ H1 s1 y st' _ hM r1 e2 fun v2 H2 F2 Fs2 r2 rd2 ef2 rs2 => ?_
  refine kr H2 x y d v1 v2 F1 F2 Q (rd1.held hM r1 rs1 ef2 (Ok.of ok)) rd2 e3 fun v3 H3 F3 sm rd3 sub => ?_
  have ef := (ef1.trans ef2).trans (Eff.pure (st := st') (Fs := Fs2) sm [])
  rw [List.append_nil] at ef
  have rs1' := rs1.held ef2 fun a h => rd1.dom h
  exact q v3 H3 F3 Fs2 (r2.same sm) rd3 ef ⟨fun i hi hs a h w => rs1'.sh i hi hs a (sub a h) w, fun z => Bool.noConfusion z, fun z => Bool.noConfusion z, fun z => Bool.noConfusion z⟩
def fFld (f : Str) : D → Option D
  | .ins _ fs => fs.lookup f
  | _ => none
theorem RepL.fld {G : Gd} {H : Hp} {f : Str} : ∀ {fs : List (Str × D)} {gs : List (Str × V)} {F : List Addr} {d : D}, fs.map (·.1) = gs.map (·.1) → RepL G H (fs.map (·.2)) (gs.map (·.2)) F → fs.lookup f = some d → ∃ v F', gs.lookup f = some v ∧ Rep G H d v F' ∧ ∀ a ∈ F', a ∈ F
  | [], _, _, _, _, _, e => by simp at e
  | (k, x) :: fs, [], _, _, h, _, _ => by simp at h
  | (k, x) :: fs, (k', y) :: gs, F, d, h, r, e => by
    simp only [List.map_cons, List.cons.injEq] at h
    obtain ⟨rfl, h⟩ := h
    cases r with
    | cons r rs =>
      rw [List.lookup_cons] at e ⊢
      cases q : f == k with
      | true =>
        rw [q] at e
        cases e
        exact ⟨y, _, rfl, r, fun a z => List.mem_append_left _ z⟩
      | false =>
        rw [q] at e
        obtain ⟨v, F', h1, h2, h3⟩ := RepL.fld h rs e
        exact ⟨v, F', h1, h2, fun a z => List.mem_append_right _ (h3 a z)⟩
theorem ev_fld {f cn : Str} (ha : EV G Xs M Ta Sa oa a ga) (hc : Cls G.K (He.ga G.K cn)) (hn : NoAttr G.K (He.ga G.K cn) f) (hK : ∀ j, (Xs j).K = G.K := by intro _; rfl) (hb : ∀ j, attributeBase a f (Xs j).env (eval a (Xs j).env) = eval a (Xs j).env := by intro _; rfl) :
    EV G Xs M Ta Sa false (.Attribute a f pos) (g1 (fun d => match d with | .ins c fs => if c = cn then fs.lookup f else none | _ => none) ga) := by
  obtain ⟨t1, p1, k1⟩ := ha
  refine ⟨_, fun j => by have z := pe_fld (pos := pos) (p1 j) (hb j); rw [hK j] at z; exact z, fun C Fs σ H st d st' Q hM r0 hg q => ?_⟩
  obtain ⟨x, e1, e2⟩ := g1_some hg
  refine k1 C Fs σ H st x st' _ hM r0 e1 fun v1 H1 F1 Fs1 r1 rd1 ef1 rs1 => ?_
  cases x with
  | ins c fs =>
    have e3 : (if c = cn then fs.lookup f else none) = some d := e2
    by_cases hcn : c = cn
    · rw [if_pos hcn] at e3
      subst hcn
      cases rd1 with
      | ins h hk rl =>
        obtain ⟨v, F', h1, h2, h3⟩ := RepL.fld hk rl e3
        refine ⟨_, _, _, _, v, rfl, h, hc, hn, h1, ?_⟩
        exact q v H1 F' Fs1 r1 h2 ef1 ⟨fun i hi hs a h w => rs1.sh i hi hs a (List.mem_cons_of_mem _ (h3 a h)) w, fun z => Bool.noConfusion z, fun z => Bool.noConfusion z, fun z => Bool.noConfusion z⟩
    · rw [if_neg hcn] at e3
      cases e3
  | _ => cases e2

/-! ### calls of built-ins -/
theorem ev_callB {id : String} {x : Str} {p : Pos} {f : List D → Option D} (hc : CB G Xs (.builtin id) f) (hm : ∀ j, (Xs j).mg x = none) (ha : EA G Xs M T S o (e :: es) gs) (hg : ∀ j, Gl (Xs j) x := by intro _; rfl) (hv : bootBuiltins x = some (.builtin id) := by decide +kernel)
    (hn : x ≠ "__name__" := by decide) (hdb : (x == ("__debug__" : Str)) = false := by decide) (he : ∀ j, starEach (e :: es) (Xs j).env = (false, eval e (Xs j).env) :: starEach es (Xs j).env := by intro _; rfl) (hpl : ∀ j, (backTo pos (starEach es (Xs j).env)).any (·.1) = false := by intro _; rfl) :
    EV G Xs M T [] true (.Call (.Name x p) (e :: es) [] pos) (gN f gs) := by
  obtain ⟨r, hr, kr⟩ := hc
  obtain ⟨t, pp, kk⟩ := ha
  refine ⟨_, fun j => pe_callB (hr j) (hg j) (hm j) hv (pp j) hn hdb (he j) (hpl j), fun C Fs σ H st d st' Q hM r0 hg q => ?_⟩
  obtain ⟨xs, e1, e2⟩ := gN_some hg
  refine kk C Fs σ H st xs st' _ hM r0 e1 fun vs H1 F1 Fs1 r1 rd1 ef1 rs1 => ?_
  refine kr H1 xs d vs F1 Q rd1 e2 fun v3 H3 F3 sm rd3 nd3 nw3 => ?_
  have ef := ef1.trans (Eff.pure (st := st') (Fs := Fs1) sm [])
  rw [List.append_nil] at ef
  exact q v3 H3 F3 Fs1 (r1.same sm) rd3 ef ⟨fun i hi hs a h w => r1.dom w (nw3 a h), fun _ => nd3, fun _ a h => ef1.dom a (nw3 a h), fun _ i a h w => r1.dom w (nw3 a h)⟩
theorem ev_callT {id : String} {x : Str} {p : Pos} {f : List D → Option D} (hc : CB G Xs (.type id) f) (hm : ∀ j, (Xs j).mg x = none) (ha : EA G Xs M T S o (e :: es) gs) (hg : ∀ j, Gl (Xs j) x := by intro _; rfl) (hv : bootBuiltins x = some (.type id) := by decide +kernel)
    (hn : x ≠ "__name__" := by decide) (hdb : (x == ("__debug__" : Str)) = false := by decide) (he : ∀ j, starEach (e :: es) (Xs j).env = (false, eval e (Xs j).env) :: starEach es (Xs j).env := by intro _; rfl) (hpl : ∀ j, (backTo pos (starEach es (Xs j).env)).any (·.1) = false := by intro _; rfl) :
    EV G Xs M T [] true (.Call (.Name x p) (e :: es) [] pos) (gN f gs) := by
  obtain ⟨r, hr, kr⟩ := hc
  obtain ⟨t, pp, kk⟩ := ha
  refine ⟨_, fun j => pe_callTy (hr j) (hg j) (hm j) hv (pp j) hn hdb (he j) (hpl j), fun C Fs σ H st d st' Q hM r0 hg q => ?_⟩
  obtain ⟨xs, e1, e2⟩ := gN_some hg
  refine kk C Fs σ H st xs st' _ hM r0 e1 fun vs H1 F1 Fs1 r1 rd1 ef1 rs1 => ?_
  refine kr H1 xs d vs F1 Q rd1 e2 fun v3 H3 F3 sm rd3 nd3 nw3 => ?_
  have ef := ef1.trans (Eff.pure (st := st') (Fs := Fs1) sm [])
  rw [List.append_nil] at ef
  exact q v3 H3 F3 Fs1 (r1.same sm) rd3 ef ⟨fun i hi hs a h w => r1.dom w (nw3 a h), fun _ => nd3, fun _ a h => ef1.dom a (nw3 a h), fun _ i a h w => r1.dom w (nw3 a h)⟩
end
end VL

/-! The value layer, part E: statements. -/
namespace VL
open PySem PySem.Spec L2 D

inductive Out where
  | nx (st : DSt) | ret (d : D) (st : DSt) | bk (st : DSt) | ct (st : DSt)

abbrev one (X : Cx) : Unit → Cx := fun _ => X

/-- what a statement hands on -/
def OutP (G : Gd) (C : Act) (K : Ends) : Out → Prop
  | .nx st => ∀ σ H Fs, SR G C Fs σ H st → K.nx σ H
  | .bk st => ∀ σ H Fs, SR G C Fs σ H st → K.bk σ H
  | .ct st => ∀ σ H Fs, SR G C Fs σ H st → K.ct σ H
  | .ret d st => ∀ v σ H Fs F, SR G C Fs σ H st → Rep G H d v F → F.Nodup → (∀ a ∈ F, C.H0 a = none) → (∀ i ∈ C.M, i < C.np → ∀ a ∈ F, a ∉ Fs i) → K.rt v H

def DS (X : Cx) (G : Gd) (M O : List Nat) (np : Nat) (s : Stmt) (g : DSt → Option Out) : Prop :=
  ∃ t, PS X s t ∧ ∀ (K : Ends) (C : Act) (Fs : Nat → List Addr) (σ : St) (H : Hp) (st : DSt) (out : Out), C.M = M → C.O = O → C.np = np → SR G C Fs σ H st → g st = some out → OutP G C K out → t K σ H
def DSs (X : Cx) (G : Gd) (M O : List Nat) (np : Nat) (s : List Stmt) (g : DSt → Option Out) : Prop :=
  ∃ t, PSs X s t ∧ ∀ (K : Ends) (C : Act) (Fs : Nat → List Addr) (σ : St) (H : Hp) (st : DSt) (out : Out), C.M = M → C.O = O → C.np = np → SR G C Fs σ H st → g st = some out → OutP G C K out → t K σ H

/-! ### a slot is set -/
def upF (Fs : Nat → List Addr) (i : Nat) (F : List Addr) : Nat → List Addr := fun j => if j = i then F else Fs j
theorem upF_same {Fs : Nat → List Addr} {i : Nat} {F : List Addr} : upF Fs i F i = F := if_pos rfl
theorem upF_ne {Fs : Nat → List Addr} {i j : Nat} {F : List Addr} (h : j ≠ i) : upF Fs i F j = Fs j := if_neg h
section
variable {G : Gd} {C : Act} {Fs : Nat → List Addr} {σ : St} {H H' : Hp} {st : DSt} {i : Nat} {d : D} {v : V} {F : List Addr}
/-- how cells may come into the slot i -/
structure Into (C : Act) (Fs : Nat → List Addr) (H : Hp) (i : Nat) (F : List Addr) : Prop where
  sh : ∀ j ∈ C.M, j ≠ i → ∀ a ∈ F, a ∉ Fs j
  nd : i ∈ C.O → F.Nodup
  ap : i ∈ C.M → ∀ j, j ≠ i → ∀ a ∈ F, a ∉ Fs j
  nw : i ∈ C.O → ∀ a ∈ F, C.H0 a = none ∨ (i < C.np ∧ a ∈ C.Wp i)
  pr : i ∈ C.M → ∀ a ∈ F, C.Pr a = none
theorem SR.put (r : SR G C Fs σ H st) (rd : Rep G H d v F) (q : Into C Fs H i F) (hp : i ∈ C.M → i < C.np → σ[i]? = some (some v)) : ∃ Fs', SR G C Fs' (σ.set i (some v)) H (st.set i (some d)) ∧ (∀ j, j ≠ i → Fs' j = Fs j) ∧ ∀ a ∈ Fs' i, a ∈ F := by
  by_cases hi : i < st.length
  · refine ⟨upF Fs i F, ⟨by rw [List.length_set, List.length_set]; exact r.len, fun j e h => ?_, fun j h => ?_, fun j hj => ?_, fun j hj k hk a h z => ?_, fun j hj a h => ?_, r.pr, fun j hj a h => ?_, r.up, fun j hj hn => ?_, r.mo⟩, fun j hj => upF_ne hj, fun a h => by rw [upF_same] at h; exact h⟩
    · by_cases ji : j = i
      · subst ji
        rw [List.getElem?_set_self hi] at h
        cases h
        rw [upF_same]
        exact ⟨v, List.getElem?_set_self (by rw [r.len]; exact hi), rd⟩
      · rw [List.getElem?_set_ne (Ne.symm ji)] at h
        rw [upF_ne ji, List.getElem?_set_ne (Ne.symm ji)]
        exact r.rep j e h
    · by_cases ji : j = i
      · subst ji
        exact absurd (List.getElem?_set_self hi) (h d)
      · rw [upF_ne ji]
        refine r.emp j fun e z => h e ?_
        rw [List.getElem?_set_ne (Ne.symm ji)]
        exact z
    · by_cases ji : j = i
      · subst ji
        rw [upF_same]
        exact q.nd hj
      · rw [upF_ne ji]
        exact r.ndo j hj
    · by_cases ji : j = i
      · subst ji
        rw [upF_same] at h
        rw [upF_ne hk] at z
        exact q.ap hj k hk a h z
      · rw [upF_ne ji] at h
        by_cases ki : k = i
        · subst ki
          rw [upF_same] at z
          exact q.sh j hj ji a z h
        · rw [upF_ne ki] at z
          exact r.dj j hj k hk a h z
    · by_cases ji : j = i
      · subst ji
        rw [upF_same] at h
        exact q.nw hj a h
      · rw [upF_ne ji] at h
        exact r.owno j hj a h
    · by_cases ji : j = i
      · subst ji
        rw [upF_same] at h
        exact q.pr hj a h
      · rw [upF_ne ji] at h
        exact r.prd j hj a h
    · by_cases ji : j = i
      · subst ji
        rw [List.getElem?_set_self (by rw [r.len]; exact hi), ← r.pin j hj hn, hp hj hn]
      · rw [List.getElem?_set_ne (Ne.symm ji)]
        exact r.pin j hj hn
  · have e1 : st.set i (some d) = st := List.set_eq_of_length_le (by omega)
    have e2 : σ.set i (some v) = σ := List.set_eq_of_length_le (by rw [r.len]; omega)
    rw [e1, e2]
    refine ⟨Fs, r, fun _ _ => rfl, fun a h => ?_⟩
    have := r.emp i fun e z => by
      rw [List.getElem?_eq_none (by omega)] at z
      cases z
    rw [this] at h
    cases h

/-- what is new and apart may come in anywhere; what shares with no slot of M into others -/
theorem Into.of {S : List Nat} {o : Bool} {H1 : Hp} (r : SR G C Fs σ H st) (up : ∀ a, H a ≠ none → H1 a = none → C.H0 a = none) (rs : Res C.M S o H1 Fs F) (rd : ∀ a ∈ F, H a ≠ none) (np : i ∉ C.O ∨ o = true) (hS : S = []) (hpr : ∀ a, C.Pr a ≠ none → H1 a ≠ none) : Into C Fs H i F := by
  subst hS
  refine ⟨fun j hj _ a h => rs.sh j hj (fun z => nomatch z) a h, fun hi => ?_, fun hi j _ a h => ?_, fun hi a h => ?_, fun hi a h => ?_⟩
  · rcases np with z | z
    · exact absurd hi z
    · exact rs.nd z
  · rcases np with z | z
    · exact absurd (r.mo i hi) z
    · exact rs.ap z j a h
  · rcases np with z | z
    · exact absurd hi z
    · exact .inl (up a (rd a h) (rs.nw z a h))
  · rcases np with z | z
    · exact absurd (r.mo i hi) z
    · cases e : C.Pr a with
      | none => rfl
      | some u => exact absurd (rs.nw z a h) (hpr a (by rw [e]; exact fun w => nomatch w))
theorem RepL.domL {ds : List D} {vs : List V} (r : RepL G H ds vs F) : ∀ a ∈ F, H a ≠ none := fun a h => r.dom h
theorem Rep.domL (r : Rep G H d v F) : ∀ a ∈ F, H a ≠ none := fun a h => r.dom h
end

/-! ### small statements -/
def sNext : DSt → Option Out := fun st => some (.nx st)
def sSeq (g1 g2 : DSt → Option Out) : DSt → Option Out := fun st => (g1 st).bind fun o => match o with
  | .nx s1 => g2 s1
  | o => some o
def sSet (i : Nat) (g : DSt → Option (D × DSt)) : DSt → Option Out := fun st => (g st).map fun p => .nx (p.2.set i (some p.1))
def sExp (g : DSt → Option (D × DSt)) : DSt → Option Out := fun st => (g st).map fun p => .nx p.2
def sRet (g : DSt → Option (D × DSt)) : DSt → Option Out := fun st => (g st).map fun p => .ret p.1 p.2
def sIf (gc : DSt → Option (Bool × DSt)) (g1 g2 : DSt → Option Out) : DSt → Option Out := fun st => (gc st).bind fun p => if p.1 = true then g1 p.2 else g2 p.2
def sBreak : DSt → Option Out := fun st => some (.bk st)
def sCont : DSt → Option Out := fun st => some (.ct st)
def sRetN : DSt → Option Out := fun st => some (.ret .non st)
section
variable {X : Cx} {G : Gd} {M O T S : List Nat} {o : Bool} {np : Nat} {s : Stmt} {ss : List Stmt} {g g' : DSt → Option Out} {ge : DSt → Option (D × DSt)} {gt : DSt → Option (Bool × DSt)} {e c : Expr} {pos : Pos}
theorem dss_nil : DSs X G M O np [] sNext := by
  refine ⟨_, pss_nil, fun K C Fs σ H st out hM hO hn r hg q => ?_⟩
  cases hg
  exact q σ H Fs r
theorem dss_one (h : DS X G M O np s g) : DSs X G M O np [s] g := by
  obtain ⟨t, p, k⟩ := h
  exact ⟨t, pss_one p, k⟩
theorem dss_cons (h : DS X G M O np s g) (h' : DSs X G M O np ss g') : DSs X G M O np (s :: ss) (sSeq g g') := by
  obtain ⟨t, p, k⟩ := h
  obtain ⟨t', p', k'⟩ := h'
  refine ⟨_, pss_cons p p', fun K C Fs σ H st out hM hO hn r hg q => ?_⟩
  unfold sSeq at hg
  obtain ⟨o1, e1, hg⟩ := Option.bind_eq_some_iff.mp hg
  refine k _ C Fs σ H st o1 hM hO hn r e1 ?_
  cases o1 with
  | nx s1 => exact fun σ' H' Fs' r' => k' K C Fs' σ' H' s1 out hM hO hn r' hg q
  | bk s1 =>
    cases hg
    exact q
  | ct s1 =>
    cases hg
    exact q
  | ret d s1 =>
    cases hg
    exact q
theorem ds_pass : DS X G M O np (.Pass pos) sNext := by
  refine ⟨_, ps_pass, fun K C Fs σ H st out hM hO hn r hg q => ?_⟩
  cases hg
  exact q σ H Fs r
theorem ds_break : DS X G M O np (.Break pos) sBreak := by
  refine ⟨_, ps_break, fun K C Fs σ H st out hM hO hn r hg q => ?_⟩
  cases hg
  exact q σ H Fs r
theorem ds_continue : DS X G M O np (.Continue pos) sCont := by
  refine ⟨_, ps_continue, fun K C Fs σ H st out hM hO hn r hg q => ?_⟩
  cases hg
  exact q σ H Fs r
theorem ds_doc {x j pos pos'} : DS X G M O np (.Expr (.Constant (.str x) j pos) pos') sNext := by
  refine ⟨_, ps_doc, fun K C Fs σ H st out hM hO hn r hg q => ?_⟩
  cases hg
  exact q σ H Fs r
theorem ds_never : DS X G M O np s (fun _ => none) := ⟨_, ps_never, fun K C Fs σ H st out hM hO hn r hg q => nomatch hg⟩
theorem ds_expr (h : EV G (one X) M T S o e ge) (hs : swapsWith e none pos.line X.env = pure false := by rfl) : DS X G M O np (.Expr e pos) (sExp ge) := by
  obtain ⟨t, p, k⟩ := h
  refine ⟨_, ps_expr (p ()) hs, fun K C Fs σ H st out hM hO hn r hg q => ?_⟩
  unfold sExp at hg
  obtain ⟨⟨d, s1⟩, e1, hg⟩ := Option.map_eq_some_iff.mp hg
  cases hg
  exact k C Fs σ H st d s1 _ hM r e1 fun v H' F Fs' r' rd ef rs => q σ H' Fs' r'
theorem Rep.notup {C : Act} (x : Unit) : True := trivial
/-- return of a new value -/
theorem ds_ret (h : EV G (one X) M T [] true e ge) : DS X G M O np (.Return (some e) pos) (sRet ge) := by
  obtain ⟨t, p, k⟩ := h
  refine ⟨_, ps_ret (p ()), fun K C Fs σ H st out hM hO hn r hg q => ?_⟩
  unfold sRet at hg
  obtain ⟨⟨d, s1⟩, e1, hg⟩ := Option.map_eq_some_iff.mp hg
  cases hg
  exact k C Fs σ H st d s1 _ hM r e1 fun v H' F Fs' r' rd ef rs => q v σ H' Fs' F r' rd (rs.nd rfl) (fun a h => r.up a (rs.nw rfl a h)) fun i hi _ a h => rs.ap rfl i a h
theorem ds_retN : DS X G M O np (.Return none pos) sRetN := by
  refine ⟨_, ps_retN, fun K C Fs σ H st out hM hO hn r hg q => ?_⟩
  cases hg
  exact q .non σ H Fs [] r .non List.nodup_nil (fun _ h => nomatch h) (fun _ _ _ _ h => nomatch h)
/-- return of a local name that is changed in place -/
theorem ds_retM (i : Nat) {x : Str} {px : Pos} (p : PE X (.Name x px) (tVar i)) (hi : (O.contains i && decide (np ≤ i)) = true := by decide) : DS X G M O np (.Return (some (.Name x px)) pos) (sRet (gVar i)) := by
  refine ⟨_, ps_ret p, fun K C Fs σ H st out hM hO hn r hg q => ?_⟩
  simp only [Bool.and_eq_true, List.contains_eq_mem, decide_eq_true_eq] at hi
  unfold sRet gVar at hg
  cases z : st[i]? with
  | none =>
    rw [z] at hg
    cases hg
  | some y =>
    rw [z] at hg
    cases y with
    | none => cases hg
    | some d =>
      cases hg
      obtain ⟨v, hv, rd⟩ := r.rep i d z
      refine ⟨v, hv, q v σ H Fs (Fs i) r rd (r.ndo i (hO ▸ hi.1)) (fun a h => ?_) fun j hj hjn a h w => ?_⟩
      · rcases r.owno i (hO ▸ hi.1) a h with z | ⟨z, _⟩
        · exact z
        · have := hi.2
          omega
      · exact r.dj j hj i (by have := hi.2; omega) a w h
theorem ds_if {a b : List Stmt} (hc : ET G (one X) M T c gt) (ha : DSs X G M O np a g) (hb : DSs X G M O np b g') : DS X G M O np (.If c a b pos) (sIf gt g g') := by
  obtain ⟨t, p, k⟩ := hc
  obtain ⟨t1, p1, k1⟩ := ha
  obtain ⟨t2, p2, k2⟩ := hb
  refine ⟨_, ps_if (p ()) p1 p2, fun K C Fs σ H st out hM hO hn r hg q => ?_⟩
  unfold sIf at hg
  obtain ⟨⟨b, s1⟩, e1, hg⟩ := Option.bind_eq_some_iff.mp hg
  refine k C Fs σ H st b s1 _ hM r e1 fun H1 Fs1 r1 ef1 => ?_
  cases b with
  | true => exact k1 K C Fs1 σ H1 s1 out hM hO hn r1 hg q
  | false => exact k2 K C Fs1 σ H1 s1 out hM hO hn r1 hg q
/-- name = value: into a slot that is not changed in place -/
theorem ds_set (i : Nat) {x : Str} {px : Pos} (h : EV G (one X) M T [] o e ge) (hN : X.N.Nodup) (hx : X.N[i]? = some x := by rfl) (hl : Loc X.env.scope x := by first | exact Or.inl rfl | exact Or.inr rfl) (hM : (!O.contains i || (o && decide (np ≤ i))) = true := by decide)
    (hs : swapsWith e (some (.Name x px)) pos.line X.env = pure false := by rfl) (hf : X.fn x = true ∨ X.env.scope.names.lookup x = some .local := by first | exact .inl rfl | exact .inr rfl) : DS X G M O np (.Assign [.Name x px] e pos) (sSet i ge) := by
  obtain ⟨t, p, k⟩ := h
  refine ⟨_, ps_set hN hx hl (p ()) hs hf, fun K C Fs σ H st out hMe hO hn r hg q => ?_⟩
  unfold sSet at hg
  obtain ⟨⟨d, s1⟩, e1, hg⟩ := Option.map_eq_some_iff.mp hg
  cases hg
  refine k C Fs σ H st d s1 _ hMe r e1 fun v H' F Fs' r' rd ef rs => ?_
  subst hMe
  subst hO
  have cond : i ∉ C.O ∨ (o = true ∧ np ≤ i) := by
    simp only [Bool.or_eq_true, Bool.not_eq_true', Bool.and_eq_true, List.contains_eq_mem, decide_eq_true_eq, decide_eq_false_iff_not] at hM
    exact hM
  obtain ⟨Fs2, r2, _⟩ := r'.put (i := i) rd (Into.of r' (fun a _ h1 => r.up a h1) rs rd.domL (cond.imp id And.left) rfl (fun a h1 h2 => by
    cases e : C.Pr a with
    | none => exact h1 e
    | some u =>
      rw [r.pr a u e] at h2
      cases h2)) (fun hi hlt => by
    rcases cond with z | ⟨_, z⟩
    · exact absurd (r'.mo i hi) z
    · omega)
  exact q _ H' Fs2 r2
end
end VL

/-! The value layer, part F: targets, loops. -/
namespace VL
open PySem PySem.Spec L2 D
/-! ### targets -/
def DG {ι : Type} (G : Gd) (Xs : ι → Cx) (M vs : List Nat) (tg : Expr) (g : D → DSt → Option DSt) : Prop :=
  ∃ t, (∀ j, PG (Xs j) tg t) ∧ ∀ (C : Act) (Fs : Nat → List Addr) (σ : St) (H : Hp) (st : DSt) (d : D) (st' : DSt) (v : V) (F : List Addr) (Q : St → Hp → Prop), C.M = M → (∀ i ∈ vs, i ∉ C.O) → SR G C Fs σ H st → Rep G H d v F → (∀ i ∈ M, ∀ a ∈ F, a ∉ Fs i) → g d st = some st' →
    (∀ σ' Fs', SR G C Fs' σ' H st' → (∀ i ∈ M, Fs' i = Fs i) → (∀ i, i ∉ vs → Fs' i = Fs i ∧ st'[i]? = st[i]? ∧ σ'[i]? = σ[i]?) → σ'.length = σ.length → Q σ' H) → t v σ H Q
def DGs {ι : Type} (G : Gd) (Xs : ι → Cx) (M ws : List Nat) (tgs : List Expr) (g : List D → DSt → Option DSt) : Prop :=
  ∃ t, (∀ j, PGs (Xs j) tgs t) ∧ ∀ (C : Act) (Fs : Nat → List Addr) (σ : St) (H : Hp) (st : DSt) (ds : List D) (st' : DSt) (vs : List V) (F : List Addr) (Q : St → Hp → Prop), C.M = M → (∀ i ∈ ws, i ∉ C.O) → SR G C Fs σ H st → RepL G H ds vs F → (∀ i ∈ M, ∀ a ∈ F, a ∉ Fs i) → g ds st = some st' →
    (∀ σ' Fs', SR G C Fs' σ' H st' → (∀ i ∈ M, Fs' i = Fs i) → (∀ i, i ∉ ws → Fs' i = Fs i ∧ st'[i]? = st[i]? ∧ σ'[i]? = σ[i]?) → σ'.length = σ.length → Q σ' H) → t vs σ H Q
def nName (i : Nat) : D → DSt → Option DSt := fun d st => some (st.set i (some d))
def nTup (n : Nat) (g : List D → DSt → Option DSt) : D → DSt → Option DSt := fun d st => match d with
  | .tup ds => if ds.length = n then g ds st else none
  | _ => none
def nNil : List D → DSt → Option DSt := fun ds st => match ds with
  | [] => some st
  | _ => none
def nCons (g : D → DSt → Option DSt) (gs : List D → DSt → Option DSt) : List D → DSt → Option DSt := fun ds st => match ds with
  | d :: r => (g d st).bind fun s => gs r s
  | _ => none
section
variable {ι : Type} {G : Gd} {Xs : ι → Cx} {M ws ws' : List Nat} {pos : Pos} {e : Expr} {es : List Expr}
theorem dg_name (i : Nat) {x : Str} (hN : ∀ j, (Xs j).N.Nodup) (hx : ∀ j, (Xs j).N[i]? = some x := by intro _; rfl) (hl : ∀ j, Loc (Xs j).env.scope x := by first | exact fun _ => Or.inl rfl | exact fun _ => Or.inr rfl) (hM : M.contains i = false := by decide)
    (hf : ∀ j, (Xs j).fn x = true ∨ (Xs j).env.scope.names.lookup x = some .local := by first | exact fun _ => .inl rfl | exact fun _ => .inr rfl) : DG G Xs M [i] (.Name x pos) (nName i) := by
  refine ⟨gName i, fun j => pg_name (hN j) (hx j) (hl j) (hf j), fun C Fs σ H st d st' v F Q hMe hvo r rd sh hg q => ?_⟩
  cases hg
  have ni : i ∉ M := by
    rw [List.contains_eq_mem, decide_eq_false_iff_not] at hM
    exact hM
  subst hMe
  obtain ⟨Fs2, r2, k2, _⟩ := r.put (i := i) rd ⟨fun j hj _ a h => sh j hj a h, fun z => absurd z (hvo i (by simp)), fun z => absurd z ni, fun z => absurd z (hvo i (by simp)), fun z => absurd z ni⟩ fun z => absurd z ni
  exact q _ Fs2 r2 (fun j hj => k2 j fun z => ni (z ▸ hj)) (fun j hj => ⟨k2 j fun z => hj (by simp [z]), List.getElem?_set_ne fun z => hj (by simp [z]), List.getElem?_set_ne fun z => hj (by simp [z])⟩) List.length_set
theorem dgs_nil : DGs G Xs M [] [] nNil := by
  refine ⟨L2.gNil, fun _ => pgs_nil, fun C Fs σ H st ds st' vs F Q hMe hvo r rd sh hg q => ?_⟩
  cases rd with
  | nil =>
    cases hg
    exact ⟨rfl, q σ Fs r (fun _ _ => rfl) (fun _ _ => ⟨rfl, rfl, rfl⟩) rfl⟩
  | cons _ _ => cases hg
theorem dgs_cons {g : D → DSt → Option DSt} {gs : List D → DSt → Option DSt} (h : DG G Xs M ws e g) (hs : DGs G Xs M ws' es gs) (hsh : ∀ j, (assignEach (e :: es) (Xs j).env).map (·.2) = assign e (Xs j).env :: (assignEach es (Xs j).env).map (·.2) := by intro _; rfl) : DGs G Xs M (ws ++ ws') (e :: es) (nCons g gs) := by
  obtain ⟨t, p, k⟩ := h
  obtain ⟨t', p', k'⟩ := hs
  refine ⟨_, fun j => pgs_cons (p j) (p' j) (hsh j), fun C Fs σ H st ds st' vs F Q hMe hvo r rd sh hg q => ?_⟩
  cases rd with
  | nil => cases hg
  | cons rd rds =>
    have hg' := hg
    unfold nCons at hg'
    obtain ⟨s1, e1, hg'⟩ := Option.bind_eq_some_iff.mp hg'
    refine ⟨_, _, rfl, k C Fs σ H st _ s1 _ _ _ hMe (fun i hi => hvo i (List.mem_append_left _ hi)) r rd (fun i hi a h => sh i hi a (List.mem_append_left _ h)) e1 fun σ1 Fs1 r1 f1 o1 l1 => ?_⟩
    exact k' C Fs1 σ1 H s1 _ st' _ _ _ hMe (fun i hi => hvo i (List.mem_append_right _ hi)) r1 rds (fun i hi a h => by rw [f1 i hi]; exact sh i hi a (List.mem_append_right _ h)) hg' fun σ2 Fs2 r2 f2 o2 l2 => q σ2 Fs2 r2 (fun i hi => (f2 i hi).trans (f1 i hi)) (fun i hi => by
      have a1 := o1 i fun z => hi (List.mem_append_left _ z)
      have a2 := o2 i fun z => hi (List.mem_append_right _ z)
      exact ⟨a2.1.trans a1.1, a2.2.1.trans a1.2.1, a2.2.2.trans a1.2.2⟩) (l2.trans l1)
theorem dg_tup {k n : Nat} {gs : List D → DSt → Option DSt} (hc : ∀ j, (Xs j).calm = true := by intro _; rfl) (h : DGs G Xs M ws es gs) (hK : ∀ j, (Xs j).K = G.K := by intro _; rfl) (hn : ∀ j, (assignEach es (Xs j).env).length = n := by intro _; rfl)
    (hst : ∀ j, (assignEach es (Xs j).env).findIdx? (·.1) = none := by intro _; rfl) : DG G Xs M ws (.Tuple es k pos) (nTup n gs) := by
  obtain ⟨t, p, kk⟩ := h
  refine ⟨_, fun j => by have z := pg_tup (k := k) (pos := pos) (hc j) (p j) (hn j) (hst j); rw [hK j] at z; exact z, fun C Fs σ H st d st' v F Q hMe hvo r rd sh hg q => ?_⟩
  cases rd with
  | tup h rl =>
    have hg' := hg
    unfold nTup at hg'
    rename_i ds vs
    by_cases hl : ds.length = n
    · have e : gs ds st = some st' := by
        have hg2 : (if ds.length = n then gs ds st else none) = some st' := hg'
        rw [if_pos hl] at hg2
        exact hg2
      exact ⟨_, vs, rfl, h, by rw [← rl.length]; exact hl, kk C Fs σ H st ds st' vs F Q hMe hvo r rl sh e q⟩
    · have hg2 : (if ds.length = n then gs ds st else none) = some st' := hg'
      rw [if_neg hl] at hg2
      cases hg2
  | _ => cases hg
end
theorem notO {O ws : List Nat} (h : (ws.all fun i => !O.contains i) = true) {i : Nat} (hi : i ∈ ws) : i ∉ O := by
  have := List.all_eq_true.mp h i hi
  rw [Bool.not_eq_true', List.contains_eq_mem, decide_eq_false_iff_not] at this
  exact this
def sAsg (ge : DSt → Option (D × DSt)) (gt : D → DSt → Option DSt) : DSt → Option Out := fun st => (ge st).bind fun p => (gt p.1 p.2).map .nx
theorem ds_asg {X : Cx} {G : Gd} {M O T ws : List Nat} {o : Bool} {np : Nat} {tg e : Expr} {pos : Pos} {ge : DSt → Option (D × DSt)} {gt : D → DSt → Option DSt} (h : EV G (one X) M T [] o e ge) (ht : DG G (one X) M ws tg gt) (hs : swapsWithSole [tg] e pos.line X.env = pure false := by rfl) (hw : swappedStores [tg] e X.env = pure none := by rfl)
    (h1 : (assignEach [tg] X.env).map (·.2) = [assign tg X.env] := by rfl) (hw2 : (ws.all fun i => !O.contains i) = true := by decide) : DS X G M O np (.Assign [tg] e pos) (sAsg ge gt) := by
  obtain ⟨t, p, k⟩ := h
  obtain ⟨t', p', k'⟩ := ht
  refine ⟨_, ps_asg (p ()) (p' ()) hs hw h1, fun K C Fs σ H st out hM hO hn r hg q => ?_⟩
  unfold sAsg at hg
  obtain ⟨⟨d, s1⟩, e1, hg⟩ := Option.bind_eq_some_iff.mp hg
  obtain ⟨s2, e2, hg⟩ := Option.map_eq_some_iff.mp hg
  cases hg
  exact k C Fs σ H st d s1 _ hM r e1 fun v H' F Fs' r' rd ef rs => k' C Fs' σ H' s1 d s2 v F _ hM (fun i hi => by subst hO; exact notO hw2 hi) r' rd (fun i hi a h => rs.sh i hi (fun z => nomatch z) a h) e2 fun σ' Fs2 r2 _ _ _ => q σ' H' Fs2 r2

/-! ### what is walked -/
/-- the walk J yields the items, as long as what P protects stands -/
structure Walk (G : Gd) (J : It) (items : List D) (P : Hp) : Prop where
  go : ∀ i H d, (∀ a o, P a = some o → H a = some o) → items[i]? = some d → J.go i H ∧ ∀ x H', J.yld i H x H' → Same H H' ∧ ∃ F, Rep G H' d x F ∧ ∀ a ∈ F, P a ≠ none
  stop : ∀ i H, (∀ a o, P a = some o → H a = some o) → items.length ≤ i → J.stop i H
/-- what stands apart from the slots that may be changed -/
noncomputable def prot (M : List Nat) (Fs : Nat → List Addr) (H : Hp) : Hp := fun a => open Classical in if ∃ i ∈ M, a ∈ Fs i then none else H a
theorem prot_sub {M : List Nat} {Fs : Nat → List Addr} {H : Hp} {a : Addr} {o : HO} (h : prot M Fs H a = some o) : H a = some o := by
  unfold prot at h
  split at h
  · cases h
  · exact h
theorem prot_of {M : List Nat} {Fs : Nat → List Addr} {H : Hp} {a : Addr} (h : ∀ i ∈ M, a ∉ Fs i) : prot M Fs H a = H a := by
  unfold prot
  exact if_neg fun ⟨i, hi, z⟩ => h i hi z
theorem prot_in {M : List Nat} {Fs : Nat → List Addr} {H : Hp} {a : Addr} {i : Nat} (hi : i ∈ M) (h : a ∈ Fs i) : prot M Fs H a = none := by
  unfold prot
  exact if_pos ⟨i, hi, h⟩
def DI {ι : Type} (G : Gd) (Xs : ι → Cx) (M T : List Nat) (tg e : Expr) (g : DSt → Option (List D × DSt)) : Prop :=
  ∃ wi, (∀ j, PI (Xs j) tg e wi) ∧ ∀ (C : Act) (Fs : Nat → List Addr) (σ : St) (H : Hp) (st : DSt) (ds : List D) (st' : DSt) (R : It → Hp → Prop), C.M = M → SR G C Fs σ H st → g st = some (ds, st') →
    (∀ J H' Fs', SR G C Fs' σ H' st' → Eff T Fs H st Fs' H' st' → Walk G J ds (prot M Fs' H') → R J H') → wi σ H R
section
variable {G : Gd} {C : Act} {Fs : Nat → List Addr} {σ : St} {H : Hp} {st : DSt}
def withPr (C : Act) (P : Hp) : Act := { C with Pr := P }
theorem SR.guard (r : SR G C Fs σ H st) : SR G (withPr C (prot C.M Fs H)) Fs σ H st :=
  ⟨r.len, r.rep, r.emp, r.ndo, r.dj, r.owno, fun a o h => prot_sub h, fun i hi a h => prot_in hi h, r.up, r.pin, r.mo⟩
theorem SR.unguard {P : Hp} (r : SR G (withPr C P) Fs σ H st) (h : ∀ a o, C.Pr a = some o → P a = some o) : SR G C Fs σ H st :=
  ⟨r.len, r.rep, r.emp, r.ndo, r.dj, r.owno, fun a o e => r.pr a o (h a o e), (fun i hi a e => by
    cases q : C.Pr a with
    | none => rfl
    | some u =>
      have z : P a = none := r.prd i hi a e
      rw [h a u q] at z
      cases z), r.up, r.pin, r.mo⟩
theorem SR.prot_le (r : SR G C Fs σ H st) : ∀ a o, C.Pr a = some o → prot C.M Fs H a = some o := fun a o e => by
  rw [prot_of fun i hi z => by rw [r.prd i hi a z] at e; cases e]
  exact r.pr a o e
end

/-! ### for -/
def loopL (gt : D → DSt → Option DSt) (gb : DSt → Option Out) : List D → DSt → Option Out
  | [], st => some (.nx st)
  | d :: ds, st => (gt d st).bind fun s1 => (gb s1).bind fun o => match o with
    | .nx s2 => loopL gt gb ds s2
    | .ct s2 => loopL gt gb ds s2
    | .bk s2 => some (.nx s2)
    | .ret x s2 => some (.ret x s2)
def sFor (gi : DSt → Option (List D × DSt)) (gt : D → DSt → Option DSt) (gb : DSt → Option Out) : DSt → Option Out := fun st => (gi st).bind fun p => loopL gt gb p.1 p.2
theorem ds_for {X : Cx} {G : Gd} {M O T ws : List Nat} {np : Nat} {tg iter : Expr} {body : List Stmt} {pos : Pos} {gi : DSt → Option (List D × DSt)} {gt : D → DSt → Option DSt} {gb : DSt → Option Out} (hp : PassesOwn (model X.prog X.w) X.A X.env X.xe) (hc : X.calm = true) (hi : DI G (one X) M T tg iter gi) (ht : DG G (one X) M ws tg gt) (hb : DSs X G M O np body gb)
    (hs : ∀ x, foldedSetIterable iter X.env x = pure x := by intro _; rfl) (hw2 : (ws.all fun i => !O.contains i) = true := by decide) : DS X G M O np (.For tg iter body [] pos) (sFor gi gt gb) := by
  obtain ⟨wi, p1, k1⟩ := hi
  obtain ⟨tt, p2, k2⟩ := ht
  obtain ⟨tb, p3, k3⟩ := hb
  refine ⟨_, ps_for hp hc (p1 ()) (p2 ()) p3 hs, fun K C Fs σ H st out hM hO hn r hg q => ?_⟩
  unfold sFor at hg
  obtain ⟨⟨items, s1⟩, e1, hg⟩ := Option.bind_eq_some_iff.mp hg
  refine k1 C Fs σ H st items s1 _ hM r e1 fun J H1 Fs1 r1 ef1 wk => ?_
  subst hM
  have rg := r1.guard
  have un : ∀ {Fs' σ' H' s'}, SR G (withPr C (prot C.M Fs1 H1)) Fs' σ' H' s' → SR G C Fs' σ' H' s' := fun {Fs' σ' H' s'} z => z.unguard r1.prot_le
  refine ⟨fun i m σ H => m = items.length - i ∧ i ≤ items.length ∧ ∃ s Fs, SR G (withPr C (prot C.M Fs1 H1)) Fs σ H s ∧ loopL gt gb (items.drop i) s = some out, ⟨_, rfl, Nat.zero_le _, s1, Fs1, rg, by simpa using hg⟩, ?_⟩
  rintro i m σ2 H2 ⟨rfl, hle, s, Fs2, r2, e2⟩
  have st2 : ∀ a o, prot C.M Fs1 H1 a = some o → H2 a = some o := r2.pr
  by_cases hlt : i < items.length
  · refine .inr ?_
    have hd : items[i]? = some items[i] := List.getElem?_eq_getElem hlt
    obtain ⟨hgo, hy⟩ := wk.go i H2 items[i] st2 hd
    refine ⟨hgo, fun σ' H' => ∃ s Fs, SR G (withPr C (prot C.M Fs1 H1)) Fs σ' H' s ∧ loopL gt gb (items.drop (i + 1)) s = some out, fun σ' H' n => ⟨items.length - (i + 1), by omega, rfl, hlt, n⟩, fun x H' y => ?_⟩
    obtain ⟨sm, F, rd, hF⟩ := hy x H' y
    rw [List.drop_eq_getElem_cons hlt] at e2
    unfold loopL at e2
    obtain ⟨s3, e3, e2⟩ := Option.bind_eq_some_iff.mp e2
    obtain ⟨o, e4, e2⟩ := Option.bind_eq_some_iff.mp e2
    have r2' := r2.same sm
    refine k2 (withPr C (prot C.M Fs1 H1)) Fs2 σ2 H' s items[i] s3 x F _ rfl (fun i hi => by subst hO; exact notO hw2 hi) r2' rd (fun j hj a h z => hF a h (r2'.prd j hj a z)) e3 fun σ3 Fs3 r3 _ _ _ => ?_
    refine k3 _ (withPr C (prot C.M Fs1 H1)) Fs3 σ3 H' s3 o rfl hO hn r3 e4 ?_
    cases o with
    | nx s4 => exact fun σ' H' Fs' r' => ⟨s4, Fs', r', e2⟩
    | ct s4 => exact fun σ' H' Fs' r' => ⟨s4, Fs', r', e2⟩
    | bk s4 =>
      have e5 : some (Out.nx s4) = some out := e2
      cases e5
      exact fun σ' H' Fs' r' => q σ' H' Fs' (un r')
    | ret d s4 =>
      have e5 : some (Out.ret d s4) = some out := e2
      cases e5
      exact fun v σ' H' Fs' F r' => q v σ' H' Fs' F (un r')
  · have e : i = items.length := by omega
    subst e
    rw [List.drop_length] at e2
    cases e2
    exact .inl ⟨wk.stop _ H2 st2 (Nat.le_refl _), q σ2 H2 Fs2 (un r2)⟩

/-! ### while -/
def loopW (gc : DSt → Option (Bool × DSt)) (gb : DSt → Option Out) : Nat → DSt → Option Out
  | 0, _ => none
  | n + 1, st => (gc st).bind fun p => if p.1 = true then (gb p.2).bind fun o => match o with
    | .nx s2 => loopW gc gb n s2
    | .ct s2 => loopW gc gb n s2
    | .bk s2 => some (.nx s2)
    | .ret x s2 => some (.ret x s2)
    else some (.nx p.2)
theorem ds_while {X : Cx} {G : Gd} {M O T : List Nat} {np : Nat} {c : Expr} {body : List Stmt} {pos : Pos} {gc : DSt → Option (Bool × DSt)} {gb : DSt → Option Out} (n : Nat) (hp : PassesOwn (model X.prog X.w) X.A X.env X.xe) (hc : ET G (one X) M T c gc) (hb : DSs X G M O np body gb) :
    DS X G M O np (.While c body [] pos) (loopW gc gb n) := by
  obtain ⟨tc, p1, k1⟩ := hc
  obtain ⟨tb, p2, k2⟩ := hb
  refine ⟨_, ps_while hp (p1 ()) p2, fun K C Fs σ H st out hM hO hn r hg q => ?_⟩
  refine ⟨fun m σ H => ∃ s Fs, SR G C Fs σ H s ∧ loopW gc gb m s = some out, ⟨n, st, Fs, r, hg⟩, ?_⟩
  rintro m σ1 H1 ⟨s, Fs1, r1, e1⟩
  cases m with
  | zero => cases e1
  | succ m =>
    unfold loopW at e1
    obtain ⟨⟨b, s2⟩, e2, e1⟩ := Option.bind_eq_some_iff.mp e1
    refine k1 C Fs1 σ1 H1 s b s2 _ hM r1 e2 fun H2 Fs2 r2 _ => ?_
    cases b with
    | false =>
      have e3 : some (Out.nx s2) = some out := e1
      cases e3
      rw [if_neg Bool.false_ne_true]
      exact q σ1 H2 Fs2 r2
    | true =>
      rw [if_pos rfl]
      have e3 : ((gb s2).bind fun o => match o with
        | .nx s2 => loopW gc gb m s2
        | .ct s2 => loopW gc gb m s2
        | .bk s2 => some (.nx s2)
        | .ret x s2 => some (.ret x s2)) = some out := e1
      obtain ⟨o, e4, e3⟩ := Option.bind_eq_some_iff.mp e3
      refine ⟨fun σ' H' => ∃ s Fs, SR G C Fs σ' H' s ∧ loopW gc gb m s = some out, fun σ' H' z => ⟨m, Nat.lt_succ_self _, z⟩, k2 _ C Fs2 σ1 H2 s2 o hM hO hn r2 e4 ?_⟩
      cases o with
      | nx s4 => exact fun σ' H' Fs' r' => ⟨s4, Fs', r', e3⟩
      | ct s4 => exact fun σ' H' Fs' r' => ⟨s4, Fs', r', e3⟩
      | bk s4 =>
        cases e3
        exact fun σ' H' Fs' r' => q σ' H' Fs' r'
      | ret d s4 =>
        cases e3
        exact fun v σ' H' Fs' F r' => q v σ' H' Fs' F r'
end VL

/-! The value layer, part G: what a def promises, over data; a def by its body. -/
namespace VL
open PySem PySem.Spec L2 D
open PyProof.Rows (envOfC)

/-- room, and nothing is being shown -/
structure RoomG (k : Nat) (A : Around) : Prop where
  room : Room k A
  gd : A.guards = some []
theorem RoomG.mono {j k : Nat} {A : Around} (r : RoomG k A) (h : j ≤ k) : RoomG j A := ⟨r.room.mono h, r.gd⟩
theorem RoomG.deeper {k : Nat} {A : Around} (r : RoomG (k + 1) A) (env : Env) : RoomG k (A.deeper env) := ⟨r.room.deeper env, r.gd⟩
theorem RoomG.make {k : Nat} {A : Around} (r : RoomG (k + 1) A) (C : Addr) (us : List Value) (kw : List (Str × Value)) : RoomG k (A.under (.builtin "type.__call__" ⟨.ref C :: us, kw⟩)) :=
  ⟨r.room.make C us kw, by
    have e : (A.under (.builtin "type.__call__" ⟨.ref C :: us, kw⟩)).guards = A.guards := by simp [Around.under, Code.guards, Code.isGuard, guardIds, pushGuards]
    rw [e]
    exact r.gd⟩

/-- an exception of the program's own: its class, its attributes -/
structure Ex where
  c : Str
  fs : List (Str × D)
inductive Res' where
  | val (d : D) | exc (e : Ex)
def ExcRep (G : Gd) (H : Hp) (cls : Value) (d : Option Addr) (e : Ex) : Prop :=
  cls = .ref (He.ga G.K e.c) ∧ match e.fs with
    | [] => d = none
    | fs => ∃ dx gs, d = some dx ∧ H dx = some (.xd gs) ∧ fs.map (·.1) = gs.map (·.1) ∧ RepL G H (fs.map (·.2)) (gs.map (·.2)) []

/-- how arguments stand; Ma: the places of those that may be changed in place -/
structure ArgsAt (G : Gd) (H : Hp) (Ma : List Nat) (ds : List D) (vs : List V) (Fa : Nat → List Addr) : Prop where
  len : vs.length = ds.length
  rep : ∀ j d, ds[j]? = some d → ∃ v, vs[j]? = some v ∧ Rep G H d v (Fa j)
  emp : ∀ j, ds.length ≤ j → Fa j = []
  nd : ∀ j ∈ Ma, (Fa j).Nodup
  dj : ∀ j ∈ Ma, ∀ k, k ≠ j → ∀ a ∈ Fa j, a ∉ Fa k
/-- what a call leaves -/
structure Back (G : Gd) (Ma : List Nat) (H : Hp) (vs : List V) (Fa : Nat → List Addr) (ds' : List D) (H' : Hp) (Fa' : Nat → List Addr) (F : List Addr) : Prop where
  off : Off (fun a => ∃ j ∈ Ma, a ∈ Fa j) H H'
  dom : ∀ a, H' a = none → H a = none
  nd : F.Nodup
  nw : ∀ a ∈ F, H a = none
  rep : ∀ j ∈ Ma, ∀ d, ds'[j]? = some d → ∃ v, vs[j]? = some v ∧ Rep G H' d v (Fa' j)
  ndj : ∀ j ∈ Ma, (Fa' j).Nodup
  sub : ∀ j ∈ Ma, ∀ a ∈ Fa' j, a ∈ Fa j ∨ H a = none
  dj : ∀ j ∈ Ma, ∀ k ∈ Ma, k ≠ j → ∀ a ∈ Fa' j, a ∉ Fa' k
  ap : ∀ j ∈ Ma, ∀ a ∈ Fa' j, a ∉ F
def Post (G : Gd) (Ma : List Nat) (H : Hp) (vs : List V) (Fa : Nat → List Addr) (ds' : List D) (Q : VK) (E : XK) : Res' → Prop
  | .val d => ∀ v H' F Fa', Rep G H' d v F → Back G Ma H vs Fa ds' H' Fa' F → Q v H'
  | .exc e => ∀ cls d H' Fa', ExcRep G H' cls d e → Back G Ma H vs Fa ds' H' Fa' [] → E cls d H'
abbrev Sem' := List D → Option (Res' × List D)
/-- what a def promises: called with such data it hands back what S tells -/
structure FnG (G : Gd) (mg : Str → Option Value) (base : Heap) (k : Nat) (f : Addr) (fd : FuncData) (ps : List Str) (Ma : List Nat) (S : Sem') : Prop where
  run : ∀ (A : Around) (outer : List Env) (s : Shared) (H : Hp) (args : Args) (us : List Value) (vs : List V) (ds : List D) (Fa : Nat → List Addr) (r : Res') (ds' : List D) (Q : VK) (E : XK), RoomG k A → Env0 G.P G.w G.K mg base A outer s H → BindsTo s fd args (ps.zip us) → Vals vs us →
    ds.length = ps.length → ArgsAt G H Ma ds vs Fa → S ds = some (r, ds') → Post G Ma H vs Fa ds' Q E r → codeAny (model G.P G.w) A (.call (.ref f) args) (CR (CX G.P G.w) outer G.P G.w H s Q E) s
theorem FnG.mono {G : Gd} {mg : Str → Option Value} {base : Heap} {j k : Nat} {f : Addr} {fd : FuncData} {ps : List Str} {Ma : List Nat} {S : Sem'} (F : FnG G mg base j f fd ps Ma S) (h : j ≤ k) : FnG G mg base k f fd ps Ma S :=
  ⟨fun A outer s H args us vs ds Fa r ds' Q E hr => F.run A outer s H args us vs ds Fa r ds' Q E (hr.mono h)⟩
theorem FnG.imp {G : Gd} {mg : Str → Option Value} {base : Heap} {k : Nat} {f : Addr} {fd : FuncData} {ps : List Str} {Ma : List Nat} {S S' : Sem'} (F : FnG G mg base k f fd ps Ma S) (h : ∀ ds r, S' ds = some r → S ds = some r) : FnG G mg base k f fd ps Ma S' :=
  ⟨fun A outer s H args us vs ds Fa r ds' Q E hr he hb hv hl ha hs => F.run A outer s H args us vs ds Fa r ds' Q E hr he hb hv hl ha (h _ _ hs)⟩

/-! ### a def by its body -/
def entry (N : List Str) (ds : List D) : DSt := ds.map some ++ List.replicate (N.length - ds.length) none
/-- how a body ends -/
def Ends' (st0 : DSt) (Ma : List Nat) (np : Nat) (o : Out) (r : Res') (ds' : List D) : Prop :=
  match o with
  | .ret d st => r = .val d ∧ ds'.length = np ∧ ∀ j ∈ Ma, j < np → st[j]? = some ds'[j]?
  | .nx st => r = .val .non ∧ ds'.length = np ∧ ∀ j ∈ Ma, j < np → st[j]? = some ds'[j]?
  | _ => False
section
variable {G : Gd} {H : Hp} {Ma M O : List Nat} {ds : List D} {vs : List V} {Fa : Nat → List Addr} {N : List Str}
noncomputable def actOf (M O : List Nat) (np : Nat) (vs : List V) (Fa : Nat → List Addr) (H : Hp) : Act := ⟨M, np, vs, Fa, H, prot (M.filter (· < np)) Fa H, O⟩
/-- the own slots: those that change, and no parameter else -/
def OwnB (M O : List Nat) (np : Nat) : Bool := (M.all fun i => O.contains i) && O.all fun i => M.contains i || decide (np ≤ i)
theorem OwnB.mo {M O : List Nat} {np : Nat} (h : OwnB M O np = true) {i : Nat} (hi : i ∈ M) : i ∈ O := by
  have := List.all_eq_true.mp (Bool.and_eq_true_iff.mp h).1 i hi
  rwa [List.contains_eq_mem, decide_eq_true_eq] at this
theorem OwnB.par {M O : List Nat} {np : Nat} (h : OwnB M O np = true) {i : Nat} (hi : i ∈ O) (hn : i < np) : i ∈ M := by
  have := List.all_eq_true.mp (Bool.and_eq_true_iff.mp h).2 i hi
  rw [Bool.or_eq_true, List.contains_eq_mem, decide_eq_true_eq, decide_eq_true_eq] at this
  rcases this with z | z
  · exact z
  · omega
theorem SR.enter (a : ArgsAt G H (M.filter (· < ds.length)) ds vs Fa) (hl : ds.length ≤ N.length) (ob : OwnB M O ds.length = true) : SR G (actOf M O ds.length vs Fa H) Fa (L2.start N vs) H (entry N ds) := by
  have inM : ∀ {i}, i ∈ M → i < ds.length → i ∈ M.filter (· < ds.length) := fun {i} h1 h2 => List.mem_filter.mpr ⟨h1, by simpa using h2⟩
  have ge : ∀ i, ds.length ≤ i → (entry N ds)[i]? ≠ some (some (ds.getD 0 .non)) := fun i hi z => by
    unfold entry at z
    rw [List.getElem?_append_right (by simpa using hi), List.getElem?_replicate] at z
    split at z <;> cases z
  refine ⟨?_, fun i d e => ?_, fun i h => ?_, fun i hi => ?_, fun i hi j hj x hx => ?_, fun i hi x hx => ?_, fun x o h => prot_sub h, fun i hi x hx => ?_, fun x h => h, fun i hi hn => ?_, fun i hi => OwnB.mo ob hi⟩
  · unfold L2.start entry
    rw [List.length_append, List.length_append, List.length_map, List.length_map, List.length_replicate, List.length_replicate, a.len]
  · have hi : i < ds.length := by
      apply Classical.byContradiction
      intro hn
      unfold entry at e
      rw [List.getElem?_append_right (by simpa using hn), List.getElem?_replicate] at e
      split at e <;> cases e
    unfold entry at e
    rw [List.getElem?_append_left (by simpa using hi), List.getElem?_map] at e
    have e' : ds[i]? = some d := by
      cases q : ds[i]? with
      | none =>
        rw [q] at e
        cases e
      | some y =>
        rw [q] at e
        cases e
        rfl
    obtain ⟨v, hv, rd⟩ := a.rep i d e'
    refine ⟨v, ?_, rd⟩
    unfold L2.start
    rw [List.getElem?_append_left (by rw [List.length_map, a.len]; exact hi), List.getElem?_map, hv] <;> rfl
  · apply a.emp
    apply Classical.byContradiction
    intro hn
    have hi : i < ds.length := by omega
    refine h ds[i] ?_
    unfold entry
    rw [List.getElem?_append_left (by simpa using hi), List.getElem?_map, List.getElem?_eq_getElem hi] <;> rfl
  · by_cases h : i < ds.length
    · exact a.nd i (inM (OwnB.par ob hi h) h)
    · rw [a.emp i (by omega)]
      exact List.nodup_nil
  · by_cases h : i < ds.length
    · exact a.dj i (inM hi h) j hj x hx
    · rw [a.emp i (by omega)] at hx
      cases hx
  · by_cases h : i < ds.length
    · exact .inr ⟨h, hx⟩
    · rw [a.emp i (by omega)] at hx
      cases hx
  · by_cases h : i < ds.length
    · exact prot_in (inM hi h) hx
    · rw [a.emp i (by omega)] at hx
      cases hx
  · unfold L2.start
    rw [List.getElem?_append_left (by rw [List.length_map, a.len]; exact hn), List.getElem?_map]
    rfl
end

theorem RepL.nil_inv {G : Gd} {H : Hp} {vs : List V} {F : List Addr} (r : RepL G H [] vs F) : vs = [] ∧ F = [] := by
  cases r
  exact ⟨rfl, rfl⟩

/-- what stands behind a body's end, as the caller sees it -/
theorem back_of {G : Gd} {H H' : Hp} {M O : List Nat} {ds ds' : List D} {vs : List V} {Fa Fs : Nat → List Addr} {σ : St} {st : DSt} {F : List Addr} (a : ArgsAt G H (M.filter (· < ds.length)) ds vs Fa) (r : SR G (actOf M O ds.length vs Fa H) Fs σ H' st)
    (hl : ds'.length = ds.length) (hd : ∀ j ∈ M.filter (· < ds.length), j < ds.length → st[j]? = some ds'[j]?) (nd : F.Nodup) (nw : ∀ x ∈ F, H x = none) (ap : ∀ i ∈ M, i < ds.length → ∀ x ∈ F, x ∉ Fs i) : Back G (M.filter (· < ds.length)) H vs Fa ds' H' Fs F := by
  have mem : ∀ {i}, i ∈ M.filter (· < ds.length) → i ∈ M ∧ i < ds.length := fun {i} h => by simpa using List.mem_filter.mp h
  refine ⟨fun x o e n => r.pr x o ?_, fun x h => r.up x h, nd, nw, fun j hj d e => ?_, fun j hj => r.nd j (mem hj).1, fun j hj x hx => ?_, fun j hj k hk hn x hx => r.dj j (mem hj).1 k hn x hx, fun j hj x hx h => ap j (mem hj).1 (mem hj).2 x h hx⟩
  · show prot (M.filter (· < ds.length)) Fa H x = some o
    rw [prot_of fun i hi z => n ⟨i, hi, z⟩]
    exact e
  · have e1 := hd j hj (mem hj).2
    rw [e] at e1
    obtain ⟨v, hv, rd⟩ := r.rep j d e1
    have hp := r.pin j (mem hj).1 (mem hj).2
    refine ⟨v, ?_, rd⟩
    rw [hv] at hp
    have hp' : some (some v) = vs[j]?.map some := hp
    cases q : vs[j]? with
    | none =>
      rw [q] at hp'
      cases hp'
    | some y =>
      rw [q] at hp'
      cases hp'
      rfl
  · rcases r.own j (mem hj).1 x hx with z | ⟨_, z⟩
    · exact .inr z
    · exact .inl z

/-- the context of a def's body -/
abbrev bodyCx (G : Gd) (mg : Str → Option Value) (base : Heap) (N : List Str) (qual : Str) (sc : Scope) (f : Addr) (cdv : Value) (A : Around) (outer : List Env) (s : Shared) (H : Hp) (E : XK) : Cx := cxOf (CX G.P G.w) G.P G.w G.K mg base N qual sc f cdv A outer s H E
/-- entering a def: the machine's part -/
theorem fn_core {G : Gd} {mg : Str → Option Value} {base : Heap} {k : Nat} {x qual : Str} {sd : Stmt} {f : Addr} {fd : FuncData} {N ps : List Str} {Ma : List Nat} {S : Sem'} (Fu : Fun G.K x qual sd f fd) (Sc : FnScope N ps (defScope sd))
    (hbody : ∀ (cdv : Value) (A : Around) (outer : List Env) (s : Shared) (H : Hp) (vs : List V) (ds : List D) (Fa : Nat → List Addr) (r : Res') (ds' : List D) (Q : VK) (E : XK), RoomG k (A.deeper (envOfC qual (defScope sd) s.heap.objs.size f cdv)) → ds.length = ps.length → ArgsAt G H Ma ds vs Fa → S ds = some (r, ds') → Post G Ma H vs Fa ds' Q E r →
      ∃ t, PSs (bodyCx G mg base N qual (defScope sd) f cdv A outer s H E) (defBody sd) t ∧ t { nx := fun _ H' => Q .non H', rt := Q } (L2.start N vs) H) : FnG G mg base (k + 1) f fd ps Ma S := by
  obtain ⟨oc, od, kV, doc, pm, an, cdv, ct, osl, rfl, lk, hcd⟩ := Fu.ex
  refine ⟨fun A outer s H args us vs ds Fa r ds' Q E hr e0 hb rv hl ha hs hp => ?_⟩
  have hvl : vs.length = ps.length := ha.len.trans hl
  have keep : ∀ b o, base.get? b = some o → s.heap.get? b = some o := fun b o e => (e0.bs b o e).1
  have kin := e0.mod.kin.keeps keep
  have par : ∀ y ∈ ps.zip us, (defScope sd).names.lookup y.1 = some .local ∨ ((defScope sd).names.lookup y.1 = some .cell ∧ ((cellsFrom (s.heap.objs.size + 1) (defScope sd).names []).lookup y.1).isSome = true) := by
    rintro ⟨n, v⟩ hy
    rcases Sc.par n (List.of_mem_zip hy).1 with q | q
    · exact Or.inl q
    · exact Or.inr ⟨q, PySem.W.cellsFrom_some _ _ _ (Or.inl q)⟩
  refine codeAny_call_function hr.room.depth (kin _ _ lk) rfl Sc.co Sc.gen rfl (PySem.W.codeRec_of kin hcd) (hb _ _ _ _ ?_)
  refine wpAny_newFunctionEnv_cells Sc.kind par fun env he s1 x => ?_
  subst he
  refine ⟨(e0.mod.nolimit.keeps keep).keeps x.toInCall.keep, codeAny_func ?_⟩
  obtain ⟨t, ht, hq⟩ := hbody cdv A outer s H vs ds Fa r ds' Q E (hr.deeper _) hl ha hs hp
  have I := inv_start (CX := CX G.P G.w) (N := N) (qual := qual) (f := f) (cd := cdv) (E := E) Sc hr.room.hd e0 hvl rv x
  refine wpAny_mono (ht.run [] s1 (L2.start N vs) H _ I hq) (fun fl s' hfl => ?_) fun e s' h => h
  cases fl with
  | next =>
    obtain ⟨σ', H', J, q⟩ := hfl
    exact ⟨V.non, H', J.os, J.bare, J.base, J.hok, rfl, q⟩
  | ret u =>
    obtain ⟨v, σ', H', J, rv', q⟩ := hfl
    exact ⟨v, H', J.os, J.bare, J.base, J.hok, rv', q⟩
  | brk => exact hfl.choose_spec.choose_spec.2.elim
  | cont => exact hfl.choose_spec.choose_spec.2.elim
/-- the context of a body that raises nothing -/
abbrev quietCx (G : Gd) (mg : Str → Option Value) (base : Heap) (N : List Str) (qual : Str) (sc : Scope) (f : Addr) (cdv : Value) (A : Around) (outer : List Env) (s : Shared) (H : Hp) : Cx := (bodyCx G mg base N qual sc f cdv A outer s H E0).nox
/-- how a body's end gives what the def hands back -/
def Gives (Ma : List Nat) (np : Nat) : Out → Res' → List D → Prop
  | .ret d st, r, ds' => r = .val d ∧ ds'.length = np ∧ ∀ j ∈ Ma, st[j]? = some ds'[j]?
  | .nx st, r, ds' => r = .val .non ∧ ds'.length = np ∧ ∀ j ∈ Ma, st[j]? = some ds'[j]?
  | _, _, _ => False
/-- THE RULE for a def that raises nothing: its body as a statement over data -/
theorem fn_body {G : Gd} {mg : Str → Option Value} {base : Heap} {k : Nat} {x qual : Str} {sd : Stmt} {f : Addr} {fd : FuncData} {N ps : List Str} {M O : List Nat} {S : Sem'} (Fu : Fun G.K x qual sd f fd) (Sc : FnScope N ps (defScope sd)) (hN : ps.length ≤ N.length) (gb : Nat → DSt → Option Out)
    (body : ∀ (cdv : Value) (A : Around) (outer : List Env) (s : Shared) (H : Hp) (n : Nat), RoomG k (A.deeper (envOfC qual (defScope sd) s.heap.objs.size f cdv)) → DSs (quietCx G mg base N qual (defScope sd) f cdv A outer s H) G M O ps.length (defBody sd) (gb n)) (ob : OwnB M O ps.length = true)
    (sem : ∀ ds r ds', ds.length = ps.length → S ds = some (r, ds') → ∃ n o, gb n (entry N ds) = some o ∧ Gives (M.filter (· < ps.length)) ps.length o r ds') : FnG G mg base (k + 1) f fd ps (M.filter (· < ps.length)) S := by
  refine fn_core Fu Sc fun cdv A outer s H vs ds Fa r ds' Q E hr hl ha hs hp => ?_
  obtain ⟨n, o, e, gv⟩ := sem ds r ds' hl hs
  obtain ⟨t, p, kk⟩ := body cdv A outer s H n hr
  have p' : PSs (bodyCx G mg base N qual (defScope sd) f cdv A outer s H E).nox (defBody sd) t := p
  rw [← hl] at ha hp gv kk hN ob
  have r0 := SR.enter (O := O) ha hN ob
  refine ⟨t, p'.nox, kk _ _ Fa _ H _ o rfl rfl rfl r0 e ?_⟩
  have mem : ∀ {j}, j ∈ M.filter (· < ds.length) → j < ds.length := fun {j} h => by
    have := (List.mem_filter.mp h).2
    simpa using this
  cases o with
  | ret d st =>
    obtain ⟨rfl, e1, e2⟩ := gv
    exact fun v σ H' Fs F r' rd nd nw ap => hp v H' F Fs rd (back_of ha r' e1 (fun j hj _ => e2 j hj) nd nw fun i hi hn => ap i hi hn)
  | nx st =>
    obtain ⟨rfl, e1, e2⟩ := gv
    exact fun σ H' Fs r' => hp .non H' [] Fs .non (back_of ha r' e1 (fun j hj _ => e2 j hj) List.nodup_nil (fun _ h => nomatch h) fun _ _ _ _ h => nomatch h)
  | bk st => exact gv.elim
  | ct st => exact gv.elim
end VL

/-! The value layer, part H: calls of defs. -/
namespace VL
open PySem PySem.Spec L2 D
open PyProof.Rows (envOfC)

theorem passG0 {P : Program} {w : World} {X : Cx} : Passes (CX P w) X E0 := fun _ _ _ _ _ _ _ ⟨_, _, _, _, _, _, _, _, _, _, _, _, z⟩ => z.elim
def rG (G : Gd) (np : Nat) (Ma : List Nat) (S : Sem') (E : XK) : List V → Hp → VK → Prop := fun vs H Q => ∃ ds Fa r ds', ds.length = np ∧ ArgsAt G H Ma ds vs Fa ∧ S ds = some (r, ds') ∧ Post G Ma H vs Fa ds' Q E r
section
variable {X : Cx} {G : Gd} {k np : Nat} {f : Addr} {fd : FuncData} {ps : List Str} {Ma : List Nat} {S : Sem'} {E : XK} {x m : Str} {p pos apos : Pos} {e o : Expr} {es : List Expr} {ta : TE} {t : TA} {mg : Str → Option Value} {base : Heap}
/-- the context is one over G -/
structure On (G : Gd) (mg : Str → Option Value) (base : Heap) (X : Cx) : Prop where
  g : (⟨X.prog, X.w, X.K⟩ : Gd) = G
  mg : X.mg = mg
  base : X.base = base
/-- how the parameters are bound -/
def BindG (G : Gd) (fd : FuncData) (ps : List Str) : Prop := ∀ (s : Shared) (us : List Value), us.length = ps.length → BindsTo s fd ⟨us, []⟩ (ps.zip us)
theorem run_g {pins : List (Addr × Obj)} {σ : St} {H : Hp} {s : Shared} {Q : VK} {us : List Value} {vs : List V} (on : On G mg base X) (F : FnG G mg base k f fd ps Ma S) (hr : RoomG k X.A) (hb : BindG G fd ps) (hx : Passes (CX G.P G.w) X E)
    (I : Inv X pins σ H s) (r : Vals vs us) (h : rG G ps.length Ma S E vs H Q) : wpAny (model X.prog X.w) X.A (call (.ref f) us) (EP X pins σ Q) X.xe s := by
  obtain ⟨hg, rfl, rfl⟩ := on
  subst hg
  obtain ⟨ds, Fa, r', ds', hl, ha, hs, hp⟩ := h
  have hul : us.length = ps.length := by rw [← r.length, ha.len, hl]
  refine wpAny_call (codeAny_mono (F.run X.A X.stack s H ⟨us, []⟩ us vs ds Fa r' ds' Q E hr I.env0 (hb s us hul) r hl ha hs hp) fun res s' hq => ?_)
  cases res with
  | error e => exact hx pins σ H s e s' I hq
  | ok fl =>
    cases fl with
    | ret u => exact I.after hq
    | next => exact False.elim hq
    | brk => exact False.elim hq
    | cont => exact False.elim hq
def tG (G : Gd) (np : Nat) (Ma : List Nat) (S : Sem') (E : XK) (t : TA) : TE := fun σ H Q => t σ H fun vs H1 => rG G np Ma S E vs H1 Q
theorem pe_callG (on : On G mg base X) (F : FnG G mg base k f fd ps Ma S) (hr : RoomG k X.A) (hm : mg x = some (.ref f)) (hk : PySem.W.keepIn G.K (.ref f) = true) (hb : BindG G fd ps) (hx : Passes (CX G.P G.w) X E) (ha : PA X (e :: es) t) (hg : Gl X x := by rfl)
    (hdb : (x == ("__debug__" : Str)) = false := by decide) (he : starEach (e :: es) X.env = (false, eval e X.env) :: starEach es X.env := by rfl) (hpl : (backTo pos (starEach es X.env)).any (·.1) = false := by rfl) :
    PE X (.Call (.Name x p) (e :: es) [] pos) (tG G ps.length Ma S E t) := by
  refine ⟨fun pins s σ H Q I h => ?_⟩
  have hk' : PySem.W.keepIn X.K (.ref f) = true := by
    have := on.g
    subst this
    exact hk
  refine wpAny_Call_Name_kw (ld_glob I hg (by rw [on.mg]; exact hm) ?_ hdb)
  exact PySem.W.callWith_K (h₀ := X.base) I.ok.mod.kin hk' (thn (ha.run pos pins s σ H _ I h) fun us s1 ⟨vs, H1, I1, r, q⟩ => ⟨I1.kIn, run_g on F hr hb hx I1 r q⟩) he hpl
theorem pe_callG0 (on : On G mg base X) (F : FnG G mg base k f fd ps Ma S) (hr : RoomG k X.A) (hm : mg x = some (.ref f)) (hk : PySem.W.keepIn G.K (.ref f) = true) (hb : BindG G fd ps) (hx : Passes (CX G.P G.w) X E) (hg : Gl X x := by rfl)
    (hdb : (x == ("__debug__" : Str)) = false := by decide) : PE X (.Call (.Name x p) [] [] pos) (tG G ps.length Ma S E tNil) := by
  refine ⟨fun pins s σ H Q I h => ?_⟩
  have hk' : PySem.W.keepIn X.K (.ref f) = true := by
    have := on.g
    subst this
    exact hk
  refine wpAny_Call_Name_kw (ld_glob I hg (by rw [on.mg]; exact hm) ?_ hdb)
  exact PySem.W.callWith_K0 I.kIn hk' (run_g (us := []) on F hr hb hx I .nil h)
end

/-! ### argument lists one by one -/
theorem RepL.each {G : Gd} {H : Hp} : ∀ {ds : List D} {vs : List V} {F : List Addr}, RepL G H ds vs F → ∃ Fa : Nat → List Addr, (∀ j d, ds[j]? = some d → ∃ v, vs[j]? = some v ∧ Rep G H d v (Fa j)) ∧ (∀ j, ∀ a ∈ Fa j, a ∈ F) ∧ ∀ j, ds.length ≤ j → Fa j = []
  | _, _, _, .nil => ⟨fun _ => [], fun j d e => by simp at e, (fun _ _ h => nomatch h), fun _ _ => rfl⟩
  | _, _, _, .cons (F := F1) (Fs := F2) r rs => by
    obtain ⟨Fa, h1, h2, h3⟩ := RepL.each rs
    refine ⟨fun j => match j with | 0 => F1 | j + 1 => Fa j, fun j d e => ?_, fun j a h => ?_, fun j h => ?_⟩
    · cases j with
      | zero =>
        simp at e
        subst e
        exact ⟨_, rfl, r⟩
      | succ j =>
        obtain ⟨v, hv, rd⟩ := h1 j d (by simpa using e)
        exact ⟨v, by simpa using hv, rd⟩
    · cases j with
      | zero => exact List.mem_append_left _ h
      | succ j => exact List.mem_append_right _ (h2 j a h)
    · cases j with
      | zero => simp at h
      | succ j => exact h3 j (by simpa using h)

/-! ### what a call does to the data -/
/-- a def that changes nothing in place -/
def gCall0 (S : Sem') (gs : DSt → Option (List D × DSt)) : DSt → Option (D × DSt) := fun st => (gs st).bind fun p => (S p.1).bind fun q => match q.1 with
  | .val d => some (d, p.2)
  | .exc _ => none
/-- a def that changes its first argument in place, which is the name in slot i -/
def gCall1 (S : Sem') (i : Nat) (gs : DSt → Option (List D × DSt)) : DSt → Option (D × DSt) := fun st => (gVar i st).bind fun _ => (gs st).bind fun p => match p.2[i]? with
  | some (some x) => (S (x :: p.1)).bind fun q => match q.1, q.2 with
    | .val d, x' :: _ => some (d, p.2.set i (some x'))
    | _, _ => none
  | _ => none
theorem gCall0_some {S : Sem'} {gs : DSt → Option (List D × DSt)} {st st' : DSt} {d : D} (h : gCall0 S gs st = some (d, st')) : ∃ ds ds', gs st = some (ds, st') ∧ S ds = some (.val d, ds') := by
  unfold gCall0 at h
  obtain ⟨⟨ds, s1⟩, e1, h⟩ := Option.bind_eq_some_iff.mp h
  obtain ⟨⟨r, ds'⟩, e2, h⟩ := Option.bind_eq_some_iff.mp h
  cases r with
  | val x =>
    cases h
    exact ⟨ds, ds', e1, e2⟩
  | exc e => cases h
theorem gVar_some {i : Nat} {st st' : DSt} {d : D} (h : gVar i st = some (d, st')) : st[i]? = some (some d) ∧ st' = st := by
  unfold gVar at h
  split at h
  · rename_i d' e
    cases h
    exact ⟨e, rfl⟩
  · cases h
theorem gCall1_some {S : Sem'} {i : Nat} {gs : DSt → Option (List D × DSt)} {st st' : DSt} {d : D} (h : gCall1 S i gs st = some (d, st')) : ∃ ds s1 x x' r y, st[i]? = some (some y) ∧ gs st = some (ds, s1) ∧ s1[i]? = some (some x) ∧ S (x :: ds) = some (.val d, x' :: r) ∧ st' = s1.set i (some x') := by
  unfold gCall1 at h
  obtain ⟨⟨y, s0⟩, e0, h⟩ := Option.bind_eq_some_iff.mp h
  obtain ⟨⟨ds, s1⟩, e1, h⟩ := Option.bind_eq_some_iff.mp h
  dsimp only at h
  split at h
  · rename_i x hx
    obtain ⟨⟨r, ds'⟩, e2, h⟩ := Option.bind_eq_some_iff.mp h
    dsimp only at h
    split at h
    · rename_i d' x' r' 
      cases h
      exact ⟨ds, s1, x, x', _, y, (gVar_some e0).1, e1, hx, e2, rfl⟩
    · cases h
  · cases h

section
variable {ι : Type} {G : Gd} {Xs : ι → Cx} {M T S : List Nat} {o : Bool} {k : Nat} {f : Addr} {fd : FuncData} {ps : List Str} {Sf : Sem'} {x : Str} {p pos : Pos} {e : Expr} {es : List Expr} {gs : DSt → Option (List D × DSt)} {mg : Str → Option Value} {base : Heap}
/-- a result behind a call of a def that changes nothing in place -/
theorem call0_core {C : Act} {Fs Fs1 : Nat → List Addr} {σ : St} {H H1 : Hp} {st s1 : DSt} {ds ds' : List D} {vs : List V} {F : List Addr} {d : D} {Q : VK} (hM : C.M = M) (hl : ds.length = ps.length) (r1 : SR G C Fs1 σ H1 s1) (rd : RepL G H1 ds vs F) (ef : Eff T Fs H st Fs1 H1 s1) (hs : Sf ds = some (.val d, ds'))
    (q : ∀ v H' F Fs', SR G C Fs' σ H' s1 → Rep G H' d v F → Eff T Fs H st Fs' H' s1 → Res M [] true H Fs' F → Q v H') : rG G ps.length [] Sf E0 vs H1 Q := by
  obtain ⟨Fa, h1, h2, h3⟩ := rd.each
  refine ⟨ds, Fa, .val d, ds', hl, ⟨rd.length.symm, h1, h3, (fun _ h => nomatch h), (fun _ h => nomatch h)⟩, hs, fun v H' F' Fa' rv bk => ?_⟩
  have sm : Same H1 H' := fun a u e => bk.off a u e fun ⟨_, h, _⟩ => nomatch h
  have ef2 := ef.trans (Eff.pure (st := s1) (Fs := Fs1) sm [])
  rw [List.append_nil] at ef2
  exact q v H' F' Fs1 (r1.same sm) rv ef2 ⟨fun i hi _ a h w => r1.dom w (bk.nw a h), fun _ => bk.nd, fun _ a h => ef.dom a (bk.nw a h), fun _ i a h w => r1.dom w (bk.nw a h)⟩
theorem ev_call0 (on : ∀ j, On G mg base (Xs j)) (F : FnG G mg base k f fd ps [] Sf) (hr : ∀ j, RoomG k (Xs j).A) (hm : mg x = some (.ref f)) (hk : PySem.W.keepIn G.K (.ref f) = true) (hb : BindG G fd ps) (ha : EA G Xs M T S o (e :: es) gs) (hl : (e :: es).length = ps.length := by rfl) (hlen : ∀ st ds st', gs st = some (ds, st') → ds.length = (e :: es).length)
    (hg : ∀ j, Gl (Xs j) x := by intro _; rfl) (hdb : (x == ("__debug__" : Str)) = false := by decide) (he : ∀ j, starEach (e :: es) (Xs j).env = (false, eval e (Xs j).env) :: starEach es (Xs j).env := by intro _; rfl) (hpl : ∀ j, (backTo pos (starEach es (Xs j).env)).any (·.1) = false := by intro _; rfl) :
    EV G Xs M T [] true (.Call (.Name x p) (e :: es) [] pos) (gCall0 Sf gs) := by
  obtain ⟨t, pp, kk⟩ := ha
  refine ⟨_, fun j => pe_callG (on j) F (hr j) hm hk hb passG0 (pp j) (hg j) hdb (he j) (hpl j), fun C Fs σ H st d st' Q hM r0 hg q => ?_⟩
  obtain ⟨ds, ds', e1, e2⟩ := gCall0_some hg
  exact kk C Fs σ H st ds st' _ hM r0 e1 fun vs H1 F1 Fs1 r1 rd1 ef1 rs1 => call0_core hM ((hlen _ _ _ e1).trans hl) r1 rd1 ef1 e2 q
theorem ev_call00 (on : ∀ j, On G mg base (Xs j)) (F : FnG G mg base k f fd ps [] Sf) (hr : ∀ j, RoomG k (Xs j).A) (hm : mg x = some (.ref f)) (hk : PySem.W.keepIn G.K (.ref f) = true) (hb : BindG G fd ps) (hl : ps.length = 0 := by rfl)
    (hg : ∀ j, Gl (Xs j) x := by intro _; rfl) (hdb : (x == ("__debug__" : Str)) = false := by decide) : EV G Xs M [] [] true (.Call (.Name x p) [] [] pos) (gCall0 Sf gNil) := by
  refine ⟨_, fun j => pe_callG0 (on j) F (hr j) hm hk hb passG0 (hg j) hdb, fun C Fs σ H st d st' Q hM r0 hg q => ?_⟩
  obtain ⟨ds, ds', e1, e2⟩ := gCall0_some hg
  cases e1
  exact call0_core (T := []) (ds := []) hM (by rw [hl] <;> rfl) r0 .nil (Eff.pure (fun _ _ z => z) []) e2 q

/-- a result behind a call of a def that changes the data in slot i in place -/
theorem call1_core {C : Act} {Fs Fs1 : Nat → List Addr} {σ : St} {H H1 : Hp} {st s1 : DSt} {i : Nat} {x x' : D} {ds rr : List D} {v0 : V} {vs : List V} {F : List Addr} {d : D} {Q : VK} (hM : C.M = M) (hl : ds.length + 1 = ps.length) (r1 : SR G C Fs1 σ H1 s1) (hx : s1[i]? = some (some x)) (hv : σ[i]? = some (some v0)) (him : i ∈ M)
    (rd : RepL G H1 ds vs F) (sh : ∀ a ∈ F, a ∉ Fs1 i) (ef : Eff T Fs H st Fs1 H1 s1) (hs : Sf (x :: ds) = some (.val d, x' :: rr))
    (q : ∀ v H' F Fs', SR G C Fs' σ H' (s1.set i (some x')) → Rep G H' d v F → Eff (T ++ [i]) Fs H st Fs' H' (s1.set i (some x')) → Res M [] true H Fs' F → Q v H') : rG G ps.length [0] Sf E0 (v0 :: vs) H1 Q := by
  obtain ⟨Fa, h1, h2, h3⟩ := rd.each
  obtain ⟨w0, hw, rx⟩ := r1.rep i x hx
  have ew : w0 = v0 := by
    rw [hv] at hw
    cases hw
    rfl
  subst ew
  refine ⟨x :: ds, fun j => match j with | 0 => Fs1 i | j + 1 => Fa j, .val d, x' :: rr, by rw [List.length_cons]; exact hl, ⟨by rw [List.length_cons, List.length_cons, rd.length], fun j e he => ?_, fun j h => ?_, fun j hj => ?_, fun j hj k hk a ha => ?_⟩, hs, fun v H' F' Fa' rv bk => ?_⟩
  · cases j with
    | zero =>
      simp at he
      subst he
      exact ⟨_, rfl, rx⟩
    | succ j =>
      obtain ⟨v, e1, e2⟩ := h1 j e (by simpa using he)
      exact ⟨v, by simpa using e1, e2⟩
  · cases j with
    | zero => simp at h
    | succ j => exact h3 j (by simpa using h)
  · have e : j = 0 := by simpa using hj
    subst e
    exact r1.nd i (hM ▸ him)
  · have e : j = 0 := by simpa using hj
    subst e
    cases k with
    | zero => exact absurd rfl hk
    | succ k => exact fun z => sh a (h2 k a z) ha
  · have him' : i ∈ C.M := hM ▸ him
    have hoff : Off (fun a => a ∈ Fs1 i) H1 H' := bk.off.mono fun a ⟨j, hj, z⟩ => by
      have e : j = 0 := by simpa using hj
      subst e
      exact z
    obtain ⟨w1, hw1, rx'⟩ := bk.rep 0 (by simp) x' rfl
    cases hw1
    have hsub : ∀ a ∈ Fa' 0, a ∈ Fs1 i ∨ H1 a = none := fun a h => bk.sub 0 (by simp) a h
    have hi : i < s1.length := (List.getElem?_eq_some_iff.mp hx).1
    have new : ∀ j, j ≠ i → ∀ a ∈ Fa' 0, a ∉ Fs1 j := fun j ji a h z => by
      rcases hsub a h with w | w
      · exact r1.dj i him' j ji a w z
      · exact r1.dom z w
    -- the other slots stand as they stood
    have old : ∀ j, j ≠ i → ∀ d v, Rep G H1 d v (Fs1 j) → Rep G H' d v (Fs1 j) := fun j ji d v r => r.off (W := fun a => a ∈ Fs1 i) (fun a h => r1.cell h) hoff fun a h z => r1.dj i him' j ji a z h
    have r2 : SR G C (upF Fs1 i (Fa' 0)) σ H' (s1.set i (some x')) := by
      refine ⟨by rw [List.length_set]; exact r1.len, fun j e he => ?_, fun j h => ?_, fun j hj => ?_, fun j hj k hk a h z => ?_, fun j hj a h => ?_, fun a u e => ?_, fun j hj a h => ?_, fun a h => r1.up a (bk.dom a h), r1.pin, r1.mo⟩
      · by_cases ji : j = i
        · subst ji
          rw [List.getElem?_set_self hi] at he
          cases he
          rw [upF_same]
          exact ⟨w0, hv, rx'⟩
        · rw [List.getElem?_set_ne (Ne.symm ji)] at he
          rw [upF_ne ji]
          obtain ⟨v, e1, e2⟩ := r1.rep j e he
          exact ⟨v, e1, old j ji e v e2⟩
      · by_cases ji : j = i
        · subst ji
          exact absurd (List.getElem?_set_self hi) (h x')
        · rw [upF_ne ji]
          refine r1.emp j fun e z => h e ?_
          rw [List.getElem?_set_ne (Ne.symm ji)]
          exact z
      · by_cases ji : j = i
        · subst ji
          rw [upF_same]
          exact bk.ndj 0 (by simp)
        · rw [upF_ne ji]
          exact r1.ndo j hj
      · by_cases ji : j = i
        · subst ji
          rw [upF_same] at h
          rw [upF_ne hk] at z
          exact new k hk a h z
        · rw [upF_ne ji] at h
          by_cases ki : k = i
          · subst ki
            rw [upF_same] at z
            exact new j ji a z h
          · rw [upF_ne ki] at z
            exact r1.dj j hj k hk a h z
      · by_cases ji : j = i
        · subst ji
          rw [upF_same] at h
          rcases hsub a h with w | w
          · exact r1.owno j hj a w
          · exact .inl (r1.up a w)
        · rw [upF_ne ji] at h
          exact r1.owno j hj a h
      · refine hoff a u (r1.pr a u e) fun z => ?_
        rw [r1.prd i him' a z] at e
        cases e
      · by_cases ji : j = i
        · subst ji
          rw [upF_same] at h
          rcases hsub a h with w | w
          · exact r1.prd j hj a w
          · cases e : C.Pr a with
            | none => rfl
            | some u =>
              rw [r1.pr a u e] at w
              cases w
        · rw [upF_ne ji] at h
          exact r1.prd j hj a h
    have ef1 : Eff [i] Fs1 H1 s1 (upF Fs1 i (Fa' 0)) H' (s1.set i (some x')) := by
      refine ⟨hoff.mono fun a z => ⟨i, by simp, z⟩, fun j hj => ?_, fun j a h => ?_, bk.dom⟩
      · have ji : j ≠ i := by simpa using hj
        exact ⟨upF_ne ji, List.getElem?_set_ne (Ne.symm ji)⟩
      · by_cases ji : j = i
        · subst ji
          rw [upF_same] at h
          exact hsub a h
        · rw [upF_ne ji] at h
          exact .inl h
    refine q v H' F' _ r2 rv (ef.trans ef1) ⟨fun j hj _ a h w => ?_, fun _ => bk.nd, fun _ a h => ef.dom a (bk.nw a h), fun _ j a h w => ?_⟩
    · by_cases ji : j = i
      · subst ji
        rw [upF_same] at w
        exact bk.ap 0 (by simp) a w h
      · rw [upF_ne ji] at w
        exact r1.dom w (bk.nw a h)
    · by_cases ji : j = i
      · subst ji
        rw [upF_same] at w
        exact bk.ap 0 (by simp) a w h
      · rw [upF_ne ji] at w
        exact r1.dom w (bk.nw a h)
/-- f(x, ..): f changes x in place -/
theorem ev_call1 (i : Nat) {y : Str} {py : Pos} (on : ∀ j, On G mg base (Xs j)) (F : FnG G mg base k f fd ps [0] Sf) (hr : ∀ j, RoomG k (Xs j).A) (hm : mg x = some (.ref f)) (hk : PySem.W.keepIn G.K (.ref f) = true) (hb : BindG G fd ps) (hy : ∀ j, PE (Xs j) (.Name y py) (tVar i)) (ha : EA G Xs M T S o es gs)
    (him : (M.contains i && !S.contains i && !T.contains i) = true := by decide) (hl : es.length + 1 = ps.length := by rfl) (hlen : ∀ st ds st', gs st = some (ds, st') → ds.length = es.length)
    (hg : ∀ j, Gl (Xs j) x := by intro _; rfl) (hdb : (x == ("__debug__" : Str)) = false := by decide) (he : ∀ j, starEach (.Name y py :: es) (Xs j).env = (false, eval (.Name y py) (Xs j).env) :: starEach es (Xs j).env := by intro _; rfl) (hpl : ∀ j, (backTo pos (starEach es (Xs j).env)).any (·.1) = false := by intro _; rfl) :
    EV G Xs M (T ++ [i]) [] true (.Call (.Name x p) (.Name y py :: es) [] pos) (gCall1 Sf i gs) := by
  obtain ⟨t, pp, kk⟩ := ha
  refine ⟨_, fun j => pe_callG (on j) F (hr j) hm hk hb passG0 (pa_cons (hy j) (pp j) (he j)) (hg j) hdb (he j) (hpl j), fun C Fs σ H st d st' Q hM r0 hg q => ?_⟩
  simp only [Bool.and_eq_true, Bool.not_eq_true', List.contains_eq_mem, decide_eq_true_eq, decide_eq_false_iff_not] at him
  obtain ⟨⟨hi1, hi2⟩, hi3⟩ := him
  obtain ⟨ds, s1, x, x', rr, y, e0, e1, e2, e3, rfl⟩ := gCall1_some hg
  obtain ⟨v0, hv, _⟩ := r0.rep i y e0
  refine ⟨v0, hv, ?_⟩
  refine kk C Fs σ H st ds s1 _ hM r0 e1 fun vs H1 F1 Fs1 r1 rd1 ef1 rs1 => ?_
  exact call1_core hM (by rw [hlen _ _ _ e1]; exact hl) r1 e2 hv hi1 rd1 (rs1.sh i hi1 hi2) ef1 e3 q
end
end VL

/-! The value layer, part I: places (a name, an item, a key, an attribute) whose data is changed in place. -/
namespace VL
open PySem PySem.Spec L2 D

/-- the data d at a place within the slot i, the cell's value v; put: what the slot holds if d is changed -/
structure PlaceAt (G : Gd) (σ : St) (H : Hp) (Fs : Nat → List Addr) (i : Nat) (d : D) (put : D → D) (v : V) (Fp : List Addr) : Prop where
  rep : Rep G H d v Fp
  sub : ∀ a ∈ Fp, a ∈ Fs i
  nd : Fp.Nodup
  zip : ∀ (W : Addr → Prop) (H2 : Hp) (d' : D) (Fp' : List Addr), (∀ a, W a → ∃ o, H a = some o ∧ Cell o) → Off W H H2 → (∀ a ∈ Fs i, W a → a ∈ Fp) → Rep G H2 d' v Fp' → Fp'.Nodup → (∀ a ∈ Fp', a ∈ Fp ∨ a ∉ Fs i) →
    ∃ v0 F', σ[i]? = some (some v0) ∧ Rep G H2 (put d') v0 F' ∧ F'.Nodup ∧ ∀ a ∈ F', a ∈ Fp' ∨ a ∈ Fs i
def EP {ι : Type} (G : Gd) (Xs : ι → Cx) (M : List Nat) (e : Expr) (i : Nat) (gp : DSt → Option (D × (D → D))) : Prop :=
  ∃ t, (∀ j, PE (Xs j) e t) ∧ ∀ (C : Act) (Fs : Nat → List Addr) (σ : St) (H : Hp) (st : DSt) (d : D) (put : D → D) (Q : VK), C.M = M → SR G C Fs σ H st → gp st = some (d, put) →
    (∀ v H' Fp, Same H H' → SR G C Fs σ H' st → PlaceAt G σ H' Fs i d put v Fp → Q v H') → t σ H Q
def pName (i : Nat) : DSt → Option (D × (D → D)) := fun st => match st[i]? with
  | some (some d) => some (d, id)
  | _ => none
section
variable {ι : Type} {G : Gd} {Xs : ι → Cx} {M T S : List Nat} {o : Bool} {e a b : Expr} {pos : Pos} {i : Nat} {gp : DSt → Option (D × (D → D))} {g ge : DSt → Option (D × DSt)}
theorem ep_name (i : Nat) {x : Str} (p : ∀ j, PE (Xs j) (.Name x pos) (tVar i)) (hi : M.contains i = true := by decide) : EP G Xs M (.Name x pos) i (pName i) := by
  refine ⟨tVar i, p, fun C Fs σ H st d put Q hM r hg q => ?_⟩
  have e : st[i]? = some (some d) ∧ put = id := by
    unfold pName at hg
    split at hg
    · rename_i d' e
      cases hg
      exact ⟨e, rfl⟩
    · cases hg
  obtain ⟨e, rfl⟩ := e
  rw [List.contains_eq_mem, decide_eq_true_eq] at hi
  obtain ⟨v, hv, rd⟩ := r.rep i d e
  exact ⟨v, hv, q v H (Fs i) (fun _ _ z => z) r ⟨rd, fun _ h => h, r.nd i (hM ▸ hi), fun W H2 d' Fp' _ _ _ rd' nd' _ => ⟨v, Fp', hv, rd', nd', fun a h => .inl h⟩⟩⟩

/-! ### a part of a representation, and what may stand in its place -/
theorem RepL.part {G : Gd} {H : Hp} : ∀ {ds : List D} {vs : List V} {F : List Addr} {n : Nat} {d : D}, RepL G H ds vs F → F.Nodup → ds[n]? = some d → ∃ v Fn, vs[n]? = some v ∧ Rep G H d v Fn ∧ (∀ a ∈ Fn, a ∈ F) ∧ Fn.Nodup ∧
    ∀ (W : Addr → Prop) (H2 : Hp) (d' : D) (Fn' : List Addr), (∀ a, W a → ∃ o, H a = some o ∧ Cell o) → Off W H H2 → (∀ a ∈ F, W a → a ∈ Fn) → Rep G H2 d' v Fn' → Fn'.Nodup → (∀ a ∈ Fn', a ∈ Fn ∨ a ∉ F) →
      ∃ F', RepL G H2 (ds.set n d') vs F' ∧ F'.Nodup ∧ (∀ a ∈ F', a ∈ Fn' ∨ a ∈ F) ∧ ∀ a ∈ F', a ∈ Fn' ∨ a ∉ Fn
  | _, _, _, n, d, .nil, _, e => by simp at e
  | _, _, _, 0, d, .cons (F := F1) (Fs := F2) r rs, nd, e => by
    simp at e
    subst e
    obtain ⟨n1, n2, n3⟩ := List.nodup_append.mp nd
    refine ⟨_, F1, rfl, r, fun a h => List.mem_append_left _ h, n1, fun W H2 d' Fn' hW off sub r' nd' new => ?_⟩
    refine ⟨Fn' ++ F2, .cons r' (rs.off hW off fun a h w => ?_), List.nodup_append.mpr ⟨nd', n2, fun a ha b hb e => ?_⟩, fun a h => ?_, fun a h => ?_⟩
    · exact n3 a (sub a (List.mem_append_right _ h) w) a h rfl
    · subst e
      rcases new a ha with z | z
      · exact n3 a z a hb rfl
      · exact z (List.mem_append_right _ hb)
    · rcases List.mem_append.mp h with h | h
      · exact .inl h
      · exact .inr (List.mem_append_right _ h)
    · rcases List.mem_append.mp h with h | h
      · exact .inl h
      · exact .inr fun z => n3 a z a h rfl
  | _, _, _, n + 1, d, .cons (F := F1) (Fs := F2) r rs, nd, e => by
    obtain ⟨n1, n2, n3⟩ := List.nodup_append.mp nd
    obtain ⟨v, Fn, hv, rn, sub, ndn, zip⟩ := RepL.part (n := n) rs n2 (by simpa using e)
    refine ⟨v, Fn, by simpa using hv, rn, fun a h => List.mem_append_right _ (sub a h), ndn, fun W H2 d' Fn' hW off subW r' nd' new => ?_⟩
    obtain ⟨F', rl', nd2, s1, s2⟩ := zip W H2 d' Fn' hW off (fun a h w => subW a (List.mem_append_right _ h) w) r' nd' fun a h => (new a h).imp id fun z w => z (List.mem_append_right _ w)
    refine ⟨F1 ++ F', .cons (r.off hW off fun a h w => ?_) rl', List.nodup_append.mpr ⟨n1, nd2, fun a ha b hb e => ?_⟩, fun a h => ?_, fun a h => ?_⟩
    · exact n3 a h a (sub a (subW a (List.mem_append_left _ h) w)) rfl
    · subst e
      rcases s1 a hb with z | z
      · rcases new a z with w | w
        · exact n3 a ha a (sub a w) rfl
        · exact w (List.mem_append_left _ ha)
      · exact n3 a ha a z rfl
    · rcases List.mem_append.mp h with h | h
      · exact .inr (List.mem_append_left _ h)
      · rcases s1 a h with z | z
        · exact .inl z
        · exact .inr (List.mem_append_right _ z)
    · rcases List.mem_append.mp h with h | h
      · exact .inr fun z => n3 a h a (sub a z) rfl
      · exact s2 a h

theorem Rep.lstv {G : Gd} {H : Hp} {ds : List D} {v : V} {F : List Addr} (r : Rep G H (.lst ds) v F) : ∃ a vs F0, v = .ref a ∧ F = a :: F0 ∧ H a = some (.lst vs) ∧ RepL G H ds vs F0 := by
  cases r with
  | lst h rl => exact ⟨_, _, _, rfl, rfl, h, rl⟩
theorem Rep.insv {G : Gd} {H : Hp} {c : Str} {fs : List (Str × D)} {v : V} {F : List Addr} (r : Rep G H (.ins c fs) v F) : ∃ a dx gs F0, v = .ref a ∧ F = a :: F0 ∧ H a = some (.ins (He.ga G.K c) dx gs) ∧ fs.map (·.1) = gs.map (·.1) ∧ RepL G H (fs.map (·.2)) (gs.map (·.2)) F0 := by
  cases r with
  | ins h hk rl => exact ⟨_, _, _, _, rfl, rfl, h, hk, rl⟩
/-- a list's item changed in place -/
theorem PlaceAt.item {σ : St} {H : Hp} {Fs : Nat → List Addr} {ds : List D} {put : D → D} {v : V} {Fp : List Addr} (p : PlaceAt G σ H Fs i (.lst ds) put v Fp) {n : Nat} {d : D} (e : ds[n]? = some d) :
    ∃ a vs w Fn, v = .ref a ∧ H a = some (.lst vs) ∧ vs.length = ds.length ∧ vs[n]? = some w ∧ PlaceAt G σ H Fs i d (fun d' => put (.lst (ds.set n d'))) w Fn := by
  obtain ⟨a, vs, F0, rfl, rfl, h, rl⟩ := p.rep.lstv
  obtain ⟨n1, n2⟩ := List.nodup_cons.mp p.nd
  obtain ⟨w, Fn, hw, rn, sub, ndn, zip⟩ := rl.part n2 e
  refine ⟨a, vs, w, Fn, rfl, h, rl.length.symm, hw, rn, fun b hb => p.sub b (List.mem_cons_of_mem _ (sub b hb)), ndn, fun W H2 d' Fn' hW off subW r' nd' new => ?_⟩
  have na : ¬ W a := fun z => n1 (sub a (subW a (p.sub a List.mem_cons_self) z))
  obtain ⟨F', rl', nd2, s1, s2⟩ := zip W H2 d' Fn' hW off (fun b hb w => subW b (p.sub b (List.mem_cons_of_mem _ hb)) w) r' nd' fun b hb => (new b hb).imp id fun z w => z (p.sub b (List.mem_cons_of_mem _ w))
  have ha : a ∉ F' := fun z => by
    rcases s1 a z with q | q
    · rcases new a q with u | u
      · exact n1 (sub a u)
      · exact u (p.sub a List.mem_cons_self)
    · exact n1 q
  obtain ⟨v0, F2, h0, r2, nd3, s3⟩ := p.zip W H2 (.lst (ds.set n d')) (a :: F') hW off (fun b hb w => List.mem_cons_of_mem _ (sub b (subW b hb w))) (.lst (off a _ h na) rl') (List.nodup_cons.mpr ⟨ha, nd2⟩) (fun b hb => by
    rcases List.mem_cons.mp hb with rfl | hb
    · exact .inl List.mem_cons_self
    · rcases s1 b hb with q | q
      · rcases new b q with u | u
        · exact .inl (List.mem_cons_of_mem _ (sub b u))
        · exact .inr u
      · exact .inl (List.mem_cons_of_mem _ q))
  refine ⟨v0, F2, h0, r2, nd3, fun b hb => ?_⟩
  rcases s3 b hb with q | q
  · rcases List.mem_cons.mp q with rfl | q
    · exact .inr (p.sub _ List.mem_cons_self)
    · rcases s1 b q with u | u
      · exact .inl u
      · exact .inr (p.sub b (List.mem_cons_of_mem _ u))
  · exact .inr q
def pIx (gp : DSt → Option (D × (D → D))) (ge : DSt → Option (D × DSt)) : DSt → Option (D × (D → D)) := fun st => (gp st).bind fun p => (ge st).bind fun q => match p.1, q.1 with
  | .lst ds, .int n => (ixN ds.length n).bind fun j => (ds[j]?).map fun y => (y, fun d' => p.2 (.lst (ds.set j d')))
  | _, _ => none
theorem pure_st {C : Act} {Fs Fs' : Nat → List Addr} {H H' : Hp} {st st' : DSt} (ef : Eff [] Fs H st Fs' H' st') : st' = st ∧ Fs' = Fs ∧ Same H H' :=
  ⟨List.ext_getElem? fun i => (ef.same i (fun z => nomatch z)).2, funext fun i => (ef.same i (fun z => nomatch z)).1, fun a o e => ef.off a o e fun ⟨_, h, _⟩ => nomatch h⟩
theorem PlaceAt.same {σ : St} {H H' : Hp} {Fs : Nat → List Addr} {d : D} {put : D → D} {v : V} {Fp : List Addr} (p : PlaceAt G σ H Fs i d put v Fp) (hF : ∀ a ∈ Fs i, H a ≠ none) (s : Same H H') : PlaceAt G σ H' Fs i d put v Fp := by
  refine ⟨p.rep.same s, p.sub, p.nd, fun W H2 d' Fp' hW off sub r' nd' new => ?_⟩
  -- only what W touches of H
  refine p.zip (fun a => W a ∧ H a ≠ none) H2 d' Fp' (fun a ⟨w, n⟩ => ?_) (fun a o e n => off a o (s a o e) fun w => n ⟨w, by rw [e]; exact fun z => nomatch z⟩) (fun a h ⟨w, _⟩ => sub a h w) r' nd' new
  obtain ⟨o, e, c⟩ := hW a w
  cases q : H a with
  | none => exact absurd q n
  | some u =>
    have := s a u q
    rw [e] at this
    cases this
    exact ⟨o, rfl, c⟩
theorem ep_ix (hp : EP G Xs M a i gp) (hb : EV G Xs M [] S o b ge) (hs : PlainIx b := by exact fun _ _ => rfl) (hK : ∀ j, (Xs j).K = G.K := by intro _; rfl) : EP G Xs M (.Subscript a b pos) i (pIx gp ge) := by
  obtain ⟨t1, p1, k1⟩ := hp
  obtain ⟨t2, p2, k2⟩ := hb
  refine ⟨tOp (rIxL G.K) t1 t2, fun j => by have z := pe_ix (pos := pos) ix_list (p1 j) (p2 j) hs; rw [hK j] at z; exact z, fun C Fs σ H st d put Q hM r hg q => ?_⟩
  unfold pIx at hg
  obtain ⟨⟨d1, put1⟩, e1, hg⟩ := Option.bind_eq_some_iff.mp hg
  obtain ⟨⟨x, s1⟩, e2, hg⟩ := Option.bind_eq_some_iff.mp hg
  cases d1 with
  | lst ds =>
   cases x with
   | int n =>
    obtain ⟨m, e3, hg⟩ := Option.bind_eq_some_iff.mp hg
    obtain ⟨y, e4, hg⟩ := Option.map_eq_some_iff.mp hg
    cases hg
    refine k1 C Fs σ H st _ put1 _ hM r e1 fun v1 H1 Fp sm1 r1 pl => ?_
    refine k2 C Fs σ H1 st _ s1 _ hM r1 e2 fun v2 H2 F2 Fs2 r2 rd2 ef2 _ => ?_
    obtain ⟨rfl, rfl, sm2⟩ := pure_st (C := C) ef2
    cases rd2.intv
    obtain ⟨p, vs, w, Fn, rfl, hp, hl, hw, pl2⟩ := pl.item e4
    have pl3 := pl2.same (fun a h => r1.dom h) sm2
    exact ⟨p, vs, n, w, rfl, rfl, SqL.of (sm2 _ _ hp), by unfold atI; rw [hl, e3]; exact hw, q w H2 Fn (sm1.trans sm2) r2 pl3⟩
   | _ => cases hg
  | _ => cases hg

/-! ### an attribute -/
def pFld (f : Str) (gp : DSt → Option (D × (D → D))) (cn : Str) : DSt → Option (D × (D → D)) := fun st => (gp st).bind fun p => match p.1 with
  | .ins c fs => if c = cn then (fs.findIdx? (·.1 == f)).bind fun j => (fs[j]?).map fun y => (y.2, fun d' => p.2 (.ins c (fs.set j (f, d')))) else none
  | _ => none

/-! ### the change -/
/-- behind a change at a place: T has changed meanwhile, not the place's slot -/
theorem place_core {C : Act} {Fs Fs2 : Nat → List Addr} {σ : St} {H1 H2 H3 : Hp} {st s2 : DSt} {d d' : D} {put : D → D} {v : V} {Fp Fp' : List Addr} (hM : C.M = M) (him : i ∈ M) (r1 : SR G C Fs σ H1 st) (pl : PlaceAt G σ H1 Fs i d put v Fp) (r2 : SR G C Fs2 σ H2 s2) (ef : Eff T Fs H1 st Fs2 H2 s2) (hT : i ∉ T)
    (off : Off (fun a => a ∈ Fp) H2 H3) (dom : ∀ a, H3 a = none → H2 a = none) (rd : Rep G H3 d' v Fp') (nd : Fp'.Nodup) (sub : ∀ a ∈ Fp', a ∈ Fp ∨ (a ∉ Fs i ∧ C.H0 a = none ∧ C.Pr a = none)) (ap : ∀ j, j ≠ i → ∀ a ∈ Fp', a ∉ Fs2 j) :
    ∃ Fs3, SR G C Fs3 σ H3 (s2.set i (some (put d'))) ∧ (∀ j, j ≠ i → Fs3 j = Fs2 j) ∧ ∀ a ∈ Fs3 i, a ∈ Fp' ∨ a ∈ Fs2 i := by
  have him' : i ∈ C.M := hM ▸ him
  have eFi : Fs2 i = Fs i := (ef.same i hT).1
  obtain ⟨v0, F', h0, r0, nd0, s0⟩ := pl.zip (fun a => (∃ j ∈ T, a ∈ Fs j) ∨ a ∈ Fp) H3 d' Fp' (fun a w => by
    rcases w with ⟨j, _, w⟩ | w
    · exact r1.cell w
    · exact pl.rep.cell a w) (fun a o e n => off a o (ef.off a o e fun z => n (.inl z)) fun z => n (.inr z)) (fun a h w => by
    rcases w with ⟨j, hj, w⟩ | w
    · exact absurd w (r1.dj i him' j (fun z => hT (z ▸ hj)) a h)
    · exact w) rd nd fun a h => (sub a h).imp id And.left
  have inF : ∀ a ∈ F', a ∈ Fp' ∨ a ∈ Fs2 i := fun a h => by
    rw [eFi]
    exact s0 a h
  have apF : ∀ j, j ≠ i → ∀ a ∈ F', a ∉ Fs2 j := fun j ji a h z => by
    rcases inF a h with w | w
    · exact ap j ji a w z
    · exact r2.dj i him' j ji a w z
  have offi : ∀ a, a ∈ Fp → a ∈ Fs2 i := fun a h => by
    rw [eFi]
    exact pl.sub a h
  have newF : ∀ a ∈ F', a ∈ Fs2 i ∨ (C.H0 a = none ∧ C.Pr a = none) := fun a h => by
    rcases inF a h with w | w
    · rcases sub a w with u | u
      · exact .inl (offi a u)
      · exact .inr u.2
    · exact .inl w
  have hi : i < s2.length := by
    rw [← r2.len]
    exact (List.getElem?_eq_some_iff.mp h0).1
  refine ⟨upF Fs2 i F', ⟨by rw [List.length_set]; exact r2.len, fun j e he => ?_, fun j h => ?_, fun j hj => ?_, fun j hj k hk a h z => ?_, fun j hj a h => ?_, fun a u e => ?_, fun j hj a h => ?_, fun a h => r2.up a (dom a h), r2.pin, r2.mo⟩, fun j hj => upF_ne hj, fun a h => by rw [upF_same] at h; exact inF a h⟩
  · by_cases ji : j = i
    · subst ji
      rw [List.getElem?_set_self hi] at he
      cases he
      rw [upF_same]
      exact ⟨v0, h0, r0⟩
    · rw [List.getElem?_set_ne (Ne.symm ji)] at he
      rw [upF_ne ji]
      obtain ⟨w, e1, e2⟩ := r2.rep j e he
      exact ⟨w, e1, e2.off (W := fun a => a ∈ Fp) (fun a h => r2.cell (offi a h)) off fun a h z => r2.dj i him' j ji a (offi a z) h⟩
  · by_cases ji : j = i
    · subst ji
      exact absurd (List.getElem?_set_self hi) (h _)
    · rw [upF_ne ji]
      refine r2.emp j fun e z => h e ?_
      rw [List.getElem?_set_ne (Ne.symm ji)]
      exact z
  · by_cases ji : j = i
    · subst ji
      rw [upF_same]
      exact nd0
    · rw [upF_ne ji]
      exact r2.ndo j hj
  · by_cases ji : j = i
    · subst ji
      rw [upF_same] at h
      rw [upF_ne hk] at z
      exact apF k hk a h z
    · rw [upF_ne ji] at h
      by_cases ki : k = i
      · subst ki
        rw [upF_same] at z
        exact apF j ji a z h
      · rw [upF_ne ki] at z
        exact r2.dj j hj k hk a h z
  · by_cases ji : j = i
    · subst ji
      rw [upF_same] at h
      rcases newF a h with w | w
      · exact r2.owno j hj a w
      · exact .inl w.1
    · rw [upF_ne ji] at h
      exact r2.owno j hj a h
  · refine off a u (r2.pr a u e) fun z => ?_
    rw [r2.prd i him' a (offi a z)] at e
    cases e
  · by_cases ji : j = i
    · subst ji
      rw [upF_same] at h
      rcases newF a h with w | w
      · exact r2.prd j hj a w
      · exact w.2
    · rw [upF_ne ji] at h
      exact r2.prd j hj a h
theorem place_put {C : Act} {Fs Fs2 : Nat → List Addr} {σ : St} {H1 H2 H3 : Hp} {st s2 : DSt} {d d' : D} {put : D → D} {v : V} {Fp Fp' : List Addr} (hM : C.M = M) (him : i ∈ M) (r1 : SR G C Fs σ H1 st) (pl : PlaceAt G σ H1 Fs i d put v Fp) (r2 : SR G C Fs2 σ H2 s2) (ef : Eff T Fs H1 st Fs2 H2 s2) (hT : i ∉ T)
    (off : Off (fun a => a ∈ Fp) H2 H3) (dom : ∀ a, H3 a = none → H2 a = none) (rd : Rep G H3 d' v Fp') (nd : Fp'.Nodup) (sub : ∀ a ∈ Fp', a ∈ Fp ∨ H1 a = none) (ap : ∀ j, j ≠ i → ∀ a ∈ Fp', a ∉ Fs2 j) :
    ∃ Fs3, SR G C Fs3 σ H3 (s2.set i (some (put d'))) ∧ Eff (T ++ [i]) Fs H1 st Fs3 H3 (s2.set i (some (put d'))) ∧ (∀ j, j ≠ i → Fs3 j = Fs2 j) ∧ ∀ a ∈ Fs3 i, a ∈ Fp' ∨ a ∈ Fs2 i := by
  have eFi : Fs2 i = Fs i := (ef.same i hT).1
  obtain ⟨Fs3, r3, k3, s3⟩ := place_core hM him r1 pl r2 ef hT off dom rd nd (fun a h => (sub a h).imp id fun z => ⟨fun w => r1.dom w z, r1.up a z, by
    cases e : C.Pr a with
    | none => rfl
    | some u =>
      rw [r1.pr a u e] at z
      cases z⟩) ap
  refine ⟨Fs3, r3, ⟨fun a o e n => off a o (ef.off a o e fun ⟨j, hj, z⟩ => n ⟨j, List.mem_append_left _ hj, z⟩) fun z => n ⟨i, List.mem_append_right _ (by simp), pl.sub a z⟩, fun j hj => ?_, fun j a h => ?_, fun a h => ef.dom a (dom a h)⟩, k3, s3⟩
  · have jT : j ∉ T := fun z => hj (List.mem_append_left _ z)
    have ji : j ≠ i := fun z => hj (List.mem_append_right _ (by simp [z]))
    exact ⟨(k3 j ji).trans (ef.same j jT).1, (List.getElem?_set_ne (Ne.symm ji)).trans (ef.same j jT).2⟩
  · by_cases ji : j = i
    · subst ji
      rcases s3 a h with w | w
      · rcases sub a w with u | u
        · exact .inl (pl.sub a u)
        · exact .inr u
      · exact .inl (eFi ▸ w)
    · rw [k3 j ji] at h
      exact ef.grow j a h
end
end VL

/-! The value layer, part J: lists changed in place. -/
namespace VL
open PySem PySem.Spec L2 D
section
variable {G : Gd} {H H' : Hp}
/-- parts of lists of representations -/
theorem RepL.split : ∀ {ds es : List D} {vs : List V} {F : List Addr}, RepL G H (ds ++ es) vs F → ∃ vs1 vs2 F1 F2, vs = vs1 ++ vs2 ∧ F = F1 ++ F2 ∧ RepL G H ds vs1 F1 ∧ RepL G H es vs2 F2
  | [], es, vs, F, r => ⟨[], vs, [], F, rfl, rfl, .nil, r⟩
  | d :: ds, es, _, _, .cons r rs => by
    obtain ⟨vs1, vs2, F1, F2, rfl, rfl, h1, h2⟩ := RepL.split rs
    exact ⟨_ :: vs1, vs2, _ ++ F1, F2, rfl, by rw [List.append_assoc], .cons r h1, h2⟩
theorem line_of {n : Nat} (h : n < 1000000) : n < sizeLine := Nat.lt_trans h (by rw [sizeLine_eq]; decide)
theorem line_le {n : Nat} (h : n ≤ 1000000) : n ≤ sizeLine := Nat.le_trans h (by rw [sizeLine_eq]; decide)
theorem upd_off {a : Addr} {u : HO} : Off (fun b => b = a) H (upd H a u) := fun b o e n => by
  rw [upd_ne n]
  exact e
theorem upd_dom {a b : Addr} {u : HO} (h : upd H a u b = none) : H b = none := by
  by_cases e : b = a
  · subst e
    rw [upd_same] at h
    cases h
  · rw [upd_ne e] at h
    exact h
theorem Rep.upd {a : Addr} {u o : HO} {d : D} {v : V} {F : List Addr} (r : Rep G H d v F) (ha : H a = some o) (hc : Cell o) (n : a ∉ F) : Rep G (L2.upd H a u) d v F :=
  r.off (W := fun b => b = a) (fun b e => by rw [e]; exact ⟨o, ha, hc⟩) upd_off fun b hb e => n (e ▸ hb)
theorem RepL.upd {a : Addr} {u o : HO} {d : List D} {v : List V} {F : List Addr} (r : RepL G H d v F) (ha : H a = some o) (hc : Cell o) (n : a ∉ F) : RepL G (L2.upd H a u) d v F :=
  r.off (W := fun b => b = a) (fun b e => by rw [e]; exact ⟨o, ha, hc⟩) upd_off fun b hb e => n (e ▸ hb)
theorem RepL.dropLast {ds : List D} {vs : List V} {F : List Addr} (r : RepL G H ds vs F) (nd : F.Nodup) {y : D} (e : ds.getLast? = some y) : ∃ w F1 F2, vs[vs.length - 1]? = some w ∧ Rep G H y w F2 ∧ RepL G H ds.dropLast vs.dropLast F1 ∧ F = F1 ++ F2 := by
  obtain ⟨es, rfl⟩ := List.getLast?_eq_some_iff.mp e
  obtain ⟨vs1, vs2, F1, F2, rfl, rfl, h1, h2⟩ := r.split
  cases h2 with
  | cons r2 rs2 =>
    cases rs2
    rename_i w F3
    refine ⟨w, F1, F3, ?_, r2, ?_, by rw [List.append_nil]⟩
    · rw [List.length_append, List.length_singleton, Nat.add_sub_cancel, List.getElem?_append_right (Nat.le_refl _), Nat.sub_self]
      rfl
    · rw [List.dropLast_concat, List.dropLast_concat]
      exact h1
theorem RepL.set : ∀ {ds : List D} {vs : List V} {F Fx : List Addr} {n : Nat} {x : D} {w : V}, RepL G H ds vs F → F.Nodup → Rep G H x w Fx → Fx.Nodup → (∀ a ∈ Fx, a ∉ F) → ∃ F', RepL G H (ds.set n x) (vs.set n w) F' ∧ F'.Nodup ∧ ∀ a ∈ F', a ∈ F ∨ a ∈ Fx
  | _, _, _, _, n, x, w, .nil, _, _, _, _ => ⟨[], .nil, List.nodup_nil, fun _ h => nomatch h⟩
  | _, _, _, Fx, 0, x, w, .cons (F := F1) (Fs := F2) r rs, nd, rx, ndx, dj => by
    obtain ⟨n1, n2, n3⟩ := List.nodup_append.mp nd
    refine ⟨Fx ++ F2, .cons rx rs, List.nodup_append.mpr ⟨ndx, n2, fun a ha b hb e => dj a ha (List.mem_append_right _ (e ▸ hb))⟩, fun a h => ?_⟩
    rcases List.mem_append.mp h with h | h
    · exact .inr h
    · exact .inl (List.mem_append_right _ h)
  | _, _, _, Fx, n + 1, x, w, .cons (F := F1) (Fs := F2) r rs, nd, rx, ndx, dj => by
    obtain ⟨n1, n2, n3⟩ := List.nodup_append.mp nd
    obtain ⟨F', rl, nd', s⟩ := RepL.set (n := n) rs n2 rx ndx fun a h z => dj a h (List.mem_append_right _ z)
    refine ⟨F1 ++ F', .cons r rl, List.nodup_append.mpr ⟨n1, nd', fun a ha b hb e => ?_⟩, fun a h => ?_⟩
    · subst e
      rcases s a hb with z | z
      · exact n3 a ha a z rfl
      · exact dj a z (List.mem_append_left _ ha)
    · rcases List.mem_append.mp h with h | h
      · exact .inl (List.mem_append_left _ h)
      · rcases s a h with z | z
        · exact .inl (List.mem_append_right _ z)
        · exact .inr z
theorem RepL.erase : ∀ {ds : List D} {vs : List V} {F : List Addr} {n : Nat}, RepL G H ds vs F → F.Nodup → ∃ F', RepL G H (ds.eraseIdx n) (vs.eraseIdx n) F' ∧ F'.Nodup ∧ ∀ a ∈ F', a ∈ F
  | _, _, _, n, .nil, _ => ⟨[], .nil, List.nodup_nil, fun _ h => nomatch h⟩
  | _, _, _, 0, .cons (F := F1) (Fs := F2) r rs, nd => ⟨F2, rs, (List.nodup_append.mp nd).2.1, fun a h => List.mem_append_right _ h⟩
  | _, _, _, n + 1, .cons (F := F1) (Fs := F2) r rs, nd => by
    obtain ⟨n1, n2, n3⟩ := List.nodup_append.mp nd
    obtain ⟨F', rl, nd', s⟩ := RepL.erase (n := n) rs n2
    refine ⟨F1 ++ F', .cons r rl, List.nodup_append.mpr ⟨n1, nd', fun a ha b hb e => n3 a ha b (s b hb) e⟩, fun a h => ?_⟩
    rcases List.mem_append.mp h with h | h
    · exact List.mem_append_left _ h
    · exact List.mem_append_right _ (s a h)
end

/-! ### append, pop -/
def gAppend (i : Nat) (gp : DSt → Option (D × (D → D))) (ge : DSt → Option (D × DSt)) : DSt → Option (D × DSt) := fun st => (gp st).bind fun p => (ge st).bind fun q => match p.1 with
  | .lst ds => if ds.length < 1000000 then some (.non, q.2.set i (some (p.2 (.lst (ds ++ [q.1]))))) else none
  | _ => none
def gPop (i : Nat) (gp : DSt → Option (D × (D → D))) : DSt → Option (D × DSt) := fun st => (gp st).bind fun p => match p.1 with
  | .lst ds => match ds.getLast? with
    | some y => if y.imm = true then some (y, st.set i (some (p.2 (.lst ds.dropLast)))) else none
    | none => none
  | _ => none
def gPopAt (i : Nat) (gp : DSt → Option (D × (D → D))) (ge : DSt → Option (D × DSt)) : DSt → Option (D × DSt) := fun st => (gp st).bind fun p => (ge st).bind fun q => match p.1, q.1 with
  | .lst ds, .int n => if 0 ≤ n ∧ n < ds.length then (match ds[n.toNat]? with
    | some y => if y.imm = true then some (y, q.2.set i (some (p.2 (.lst (ds.eraseIdx n.toNat))))) else none
    | none => none) else none
  | _, _ => none
section
variable {ι : Type} {G : Gd} {Xs : ι → Cx} {M T S : List Nat} {o : Bool} {e a b : Expr} {es : List Expr} {pos apos cpos : Pos} {i : Nat} {gp : DSt → Option (D × (D → D))} {g ge : DSt → Option (D × DSt)}
theorem ev_append (hp : EP G Xs M a i gp) (he : EV G Xs M T [] true e ge) (ok : (M.contains i && !T.contains i) = true := by decide) (hK : ∀ j, (Xs j).K = G.K := by intro _; rfl)
    (hbase : ∀ j, attributeBase a "append" (Xs j).env (eval a (Xs j).env) = eval a (Xs j).env := by intro _; rfl)
    (hfew : ∀ j, ((backTo cpos (starEach (e :: []) (Xs j).env)).all (fun x => !x.1) && (backToKw cpos (keywordEach [] (Xs j).env)).all (fun x => x.1.isSome) && decide ((e :: []).length + ([] : List Keyword).length + (if ([] : List Keyword).isEmpty then 0 else 1) < 30)) = true := by intro _; rfl)
    (hline : (apos.endLine == cpos.line) = true := by rfl) (hs : ∀ j, starEach (e :: []) (Xs j).env = (false, eval e (Xs j).env) :: starEach [] (Xs j).env := by intro _; rfl) (hplain : ∀ j, (backTo cpos (starEach [] (Xs j).env)).any (·.1) = false := by intro _; rfl) :
    EV G Xs M (T ++ [i]) [] true (.Call (.Attribute a "append" apos) [e] [] cpos) (gAppend i gp ge) := by
  obtain ⟨t1, p1, k1⟩ := hp
  obtain ⟨t2, p2, k2⟩ := he
  refine ⟨tBM G.K "list" rAppend t1 (tCons t2 tNil), fun j => by have z := pe_bm (cpos := cpos) (apos := apos) PySem.F.plainAttrs_list PySem.F.slot_list_append PySem.F.type_list_append mt_append (p1 j) (pa_cons (p2 j) pa_nil (hs j)) (hbase j) (hfew j) hline (hs j) (hplain j); rw [hK j] at z; exact z, fun C Fs σ H st d st' Q hM r hg q => ?_⟩
  simp only [Bool.and_eq_true, Bool.not_eq_true', List.contains_eq_mem, decide_eq_true_eq, decide_eq_false_iff_not] at ok
  obtain ⟨him, hiT⟩ := ok
  unfold gAppend at hg
  obtain ⟨⟨d1, put⟩, e1, hg⟩ := Option.bind_eq_some_iff.mp hg
  obtain ⟨⟨x, s1⟩, e2, hg⟩ := Option.bind_eq_some_iff.mp hg
  cases d1 with
  | lst ds =>
    by_cases hl : ds.length < 1000000
    · have hg' : some (D.non, s1.set i (some (put (.lst (ds ++ [x]))))) = some (d, st') := by
        have h2 : (if ds.length < 1000000 then some (D.non, s1.set i (some (put (.lst (ds ++ [x]))))) else none) = some (d, st') := hg
        rw [if_pos hl] at h2
        exact h2
      cases hg'
      refine k1 C Fs σ H st _ put _ hM r e1 fun v1 H1 Fp sm1 r1 pl => ?_
      obtain ⟨p, vs, F0, rfl, rfl, hp, rl⟩ := pl.rep.lstv
      refine ⟨.inl ⟨rfl, _, SqL.of hp⟩, ?_⟩
      refine k2 C Fs σ H1 st x s1 _ hM r1 e2 fun v2 H2 F2 Fs2 r2 rd2 ef2 rs2 => ?_
      have him' : i ∈ C.M := hM ▸ him
      have apart : ∀ b, b ∈ p :: F0 → ¬ ∃ j ∈ T, b ∈ Fs j := fun b hb ⟨j, hj, z⟩ => r1.dj i him' j (fun w => hiT (w ▸ hj)) b (pl.sub b hb) z
      have hp2 : H2 p = some (.lst vs) := ef2.off p _ hp (apart p List.mem_cons_self)
      have rl2 : RepL G H2 ds vs F0 := rl.off (W := fun b => ∃ j ∈ T, b ∈ Fs j) (fun b ⟨j, _, z⟩ => r1.cell z) ef2.off fun b hb => apart b (List.mem_cons_of_mem _ hb)
      obtain ⟨np, n0⟩ := List.nodup_cons.mp pl.nd
      have nF2 : ∀ b ∈ F2, b ∉ p :: F0 := fun b hb z => pl.rep.dom z (rs2.nw rfl b hb)
      refine ⟨p, vs, v2, rfl, rfl, hp2, line_of (by rw [← rl.length]; exact hl), ?_⟩
      obtain ⟨Fs3, r3, ef3, k3, s3⟩ := place_put hM him r1 pl r2 ef2 hiT (H3 := L2.upd H2 p (.lst (vs ++ [v2]))) (d' := .lst (ds ++ [x])) (Fp' := p :: (F0 ++ F2)) (fun b u e n => by rw [upd_ne fun z => n (by rw [z]; exact List.mem_cons_self)]; exact e) (fun b h => upd_dom h)
        (.lst upd_same ((rl2.upd hp2 trivial np).append (RepL.one (rd2.upd hp2 trivial fun z => nF2 p z List.mem_cons_self)))) (List.nodup_cons.mpr ⟨fun z => by
          rcases List.mem_append.mp z with z | z
          · exact np z
          · exact nF2 p z List.mem_cons_self, List.nodup_append.mpr ⟨n0, rs2.nd rfl, fun b hb c hc e => nF2 c hc (List.mem_cons_of_mem _ (e ▸ hb))⟩⟩) (fun b hb => by
          rcases List.mem_cons.mp hb with rfl | hb
          · exact .inl List.mem_cons_self
          · rcases List.mem_append.mp hb with z | z
            · exact .inl (List.mem_cons_of_mem _ z)
            · exact .inr (rs2.nw rfl b z)) (fun j ji b hb z => by
          have old : b ∈ p :: F0 → False := fun w => r2.dj i him' j ji b (by rw [(ef2.same i hiT).1]; exact pl.sub b w) z
          rcases List.mem_cons.mp hb with rfl | hb
          · exact old List.mem_cons_self
          · rcases List.mem_append.mp hb with w | w
            · exact old (List.mem_cons_of_mem _ w)
            · exact rs2.ap rfl j b w z)
      refine q .non _ [] Fs3 r3 .non ?_ Res.nil
      have efa := (Eff.pure (st := st) (Fs := Fs) sm1 []).trans ef3
      exact efa
    · have h2 : (if ds.length < 1000000 then some (D.non, s1.set i (some (put (.lst (ds ++ [x]))))) else none) = some (d, st') := hg
      rw [if_neg hl] at h2
      cases h2
  | _ => cases hg
theorem ev_pop (hp : EP G Xs M a i gp) (him : M.contains i = true := by decide) (hK : ∀ j, (Xs j).K = G.K := by intro _; rfl)
    (hbase : ∀ j, attributeBase a "pop" (Xs j).env (eval a (Xs j).env) = eval a (Xs j).env := by intro _; rfl) (hline : (apos.endLine == cpos.line) = true := by rfl) :
    EV G Xs M [i] [] true (.Call (.Attribute a "pop" apos) [] [] cpos) (gPop i gp) := by
  obtain ⟨t1, p1, k1⟩ := hp
  refine ⟨tBM0 G.K "list" rPop t1, fun j => by have z := pe_bm0 (cpos := cpos) (apos := apos) PySem.F.plainAttrs_list PySem.F.slot_list_pop PySem.F.type_list_pop mt_pop (p1 j) (hbase j) hline; rw [hK j] at z; exact z, fun C Fs σ H st d st' Q hM r hg q => ?_⟩
  rw [List.contains_eq_mem, decide_eq_true_eq] at him
  unfold gPop at hg
  obtain ⟨⟨d1, put⟩, e1, hg⟩ := Option.bind_eq_some_iff.mp hg
  cases d1 with
  | lst ds =>
    have h2 : (match ds.getLast? with
      | some y => if y.imm = true then some (y, st.set i (some (put (.lst ds.dropLast)))) else none
      | none => none) = some (d, st') := hg
    cases hy : ds.getLast? with
    | none =>
      rw [hy] at h2
      cases h2
    | some y =>
      rw [hy] at h2
      have h3 : (if y.imm = true then some (y, st.set i (some (put (.lst ds.dropLast)))) else none) = some (d, st') := h2
      by_cases him2 : y.imm = true
      · rw [if_pos him2] at h3
        cases h3
        refine k1 C Fs σ H st _ put _ hM r e1 fun v1 H1 Fp sm1 r1 pl => ?_
        obtain ⟨p, vs, F0, rfl, rfl, hp, rl⟩ := pl.rep.lstv
        obtain ⟨np, n0⟩ := List.nodup_cons.mp pl.nd
        obtain ⟨w, F1, F2, hw, rw', rl1, rfl⟩ := rl.dropLast n0 hy
        cases rw'.imm him2
        rw [List.append_nil] at np n0
        refine ⟨.inl ⟨rfl, _, SqL.of hp⟩, p, vs, w, rfl, rfl, hp, hw, ?_⟩
        have him' : i ∈ C.M := hM ▸ him
        obtain ⟨Fs3, r3, ef3, k3, s3⟩ := place_put (T := []) hM him r1 pl r1 (Eff.pure (fun _ _ z => z) []) (fun z => nomatch z) (H3 := L2.upd H1 p (.lst vs.dropLast)) (d' := .lst ds.dropLast) (Fp' := p :: F1) (fun b u e n => by rw [upd_ne fun z => n (by rw [z]; exact List.mem_cons_self)]; exact e) (fun b h => upd_dom h)
          (.lst upd_same (rl1.upd hp trivial np)) (List.nodup_cons.mpr ⟨np, n0⟩) (fun b hb => .inl (by rw [List.append_nil]; exact hb)) (fun j ji b hb z => r1.dj i him' j ji b (pl.sub b (by rw [List.append_nil]; exact hb)) z)
        exact q w _ [] Fs3 r3 (rw'.upd hp trivial (fun z => nomatch z)) ((Eff.pure (st := st) (Fs := Fs) sm1 []).trans ef3) Res.nil
      · rw [if_neg him2] at h3
        cases h3
  | _ => cases hg
end
end VL

/-! The value layer, part K: dicts. -/
namespace VL
open PySem PySem.Spec L2 D

/-! ### association lists -/
def aGet {κ β : Type} [DecidableEq κ] : List (κ × β) → κ → Option β
  | [], _ => none
  | (k', x) :: r, k => if k' = k then some x else aGet r k
def aPut {κ β : Type} [DecidableEq κ] : List (κ × β) → κ → β → List (κ × β)
  | [], k, v => [(k, v)]
  | (k', x) :: r, k, v => if k' = k then (k', v) :: r else (k', x) :: aPut r k v
theorem aGet_none {κ β : Type} [DecidableEq κ] {k : κ} : ∀ {l : List (κ × β)}, aGet l k = none ↔ k ∉ l.map (·.1)
  | [] => by simp [aGet]
  | (k', x) :: r => by
    unfold aGet
    by_cases e : k' = k
    · subst e
      simp
    · rw [if_neg e, aGet_none (l := r)]
      simp only [List.map_cons, List.mem_cons, not_or]
      exact ⟨fun h => ⟨fun z => e z.symm, h⟩, fun h => h.2⟩
theorem valV_aGet {κ : Type} [DecidableEq κ] {k : κ} : ∀ {l : List (κ × V)}, valV l k = aGet l k
  | [] => rfl
  | (k', x) :: r => by
    unfold aGet
    by_cases e : k' = k
    · rw [if_pos e, valV_pos (show (k', x).1 = k from e)]
    · rw [if_neg e, valV_neg (show ¬ (k', x).1 = k from e), valV_aGet]
theorem map_same {κ β : Type} [DecidableEq κ] {k : κ} {v : β} : ∀ {l : List (κ × β)}, k ∉ l.map (·.1) → l.map (fun kv => if kv.1 = k then (kv.1, v) else kv) = l
  | [], _ => rfl
  | (k', x) :: r, h => by
    simp only [List.map_cons, List.mem_cons, not_or] at h
    rw [List.map_cons, if_neg (show ¬ (k', x).1 = k from fun z => h.1 z.symm), map_same h.2]
theorem putK_aPut {κ : Type} [DecidableEq κ] {k : κ} {v : V} : ∀ {l : List (κ × V)}, (l.map (·.1)).Nodup → putK l k v = aPut l k v
  | [], _ => rfl
  | (k', x) :: r, nd => by
    obtain ⟨n1, n2⟩ := List.nodup_cons.mp nd
    have ih := putK_aPut (k := k) (v := v) n2
    unfold aPut
    unfold putK at ih ⊢
    by_cases e : k' = k
    · subst e
      rw [if_pos rfl, if_pos (by simp), List.map_cons, if_pos rfl, map_same n1]
    · rw [if_neg e]
      by_cases h : (r.any fun kv => decide (kv.1 = k)) = true
      · rw [if_pos h] at ih
        rw [if_pos (by rw [List.any_cons, h, Bool.or_true]), List.map_cons, if_neg (show ¬ (k', x).1 = k from e), ih]
      · rw [if_neg h] at ih
        have h2 : ¬ ((((k', x) :: r).any fun kv => decide (kv.1 = k)) = true) := by
          rw [List.any_cons, Bool.or_eq_true, not_or]
          exact ⟨by simpa using e, h⟩
        rw [if_neg h2, List.cons_append, ih]
theorem aPut_keys {κ β : Type} [DecidableEq κ] {k : κ} {v : β} : ∀ {l : List (κ × β)}, (aPut l k v).map (·.1) = if k ∈ l.map (·.1) then l.map (·.1) else l.map (·.1) ++ [k]
  | [] => by simp [aPut]
  | (k', x) :: r => by
    unfold aPut
    by_cases e : k' = k
    · subst e
      simp
    · rw [if_neg e, List.map_cons, aPut_keys (l := r)]
      have : (k ∈ ((k', x) :: r).map (·.1)) ↔ k ∈ r.map (·.1) := by
        simp only [List.map_cons, List.mem_cons]
        exact ⟨fun h => h.resolve_left fun z => e z.symm, .inr⟩
      by_cases h : k ∈ r.map (·.1)
      · rw [if_pos h, if_pos (this.mpr h), List.map_cons]
      · rw [if_neg h, if_neg (fun z => h (this.mp z)), List.map_cons, List.cons_append]
theorem aPut_nodup {κ β : Type} [DecidableEq κ] {k : κ} {v : β} {l : List (κ × β)} (h : (l.map (·.1)).Nodup) : ((aPut l k v).map (·.1)).Nodup := by
  rw [aPut_keys]
  by_cases e : k ∈ l.map (·.1)
  · rw [if_pos e]
    exact h
  · rw [if_neg e]
    exact List.nodup_append.mpr ⟨h, by simp, fun a ha b hb z => e (by
      have hb' : b = k := by simpa using hb
      rw [← hb', ← z]
      exact ha)⟩
theorem aPut_length {κ β : Type} [DecidableEq κ] {k : κ} {v : β} : ∀ {l : List (κ × β)}, (aPut l k v).length ≤ l.length + 1
  | [] => by simp [aPut]
  | (k', x) :: r => by
    have := aPut_length (k := k) (v := v) (l := r)
    unfold aPut
    split <;> simp only [List.length_cons] <;> omega

theorem keyOf_inj {a b : D} {k : Key} (h : keyOf a = some k) (h' : keyOf b = some k) : a = b := by
  cases a <;> simp [keyOf] at h <;> subst h <;> cases b <;> simp [keyOf] at h' <;> rw [h']
mutual
theorem nkey_inj : ∀ {a b : D} {k : NestedKey}, nkey a = some k → nkey b = some k → a = b
  | .non, b, k, h, h' => by
    simp [nkey] at h
    subst h
    cases b with
    | non => rfl
    | tup ds =>
      simp only [nkey, Option.map_eq_some_iff] at h'
      obtain ⟨_, _, z⟩ := h'
      cases z
    | _ => simp [nkey] at h'
  | .int i, b, k, h, h' => by
    simp [nkey] at h
    subst h
    cases b with
    | int j => simp [nkey] at h'; rw [h']
    | tup ds =>
      simp only [nkey, Option.map_eq_some_iff] at h'
      obtain ⟨_, _, z⟩ := h'
      cases z
    | _ => simp [nkey] at h'
  | .str i, b, k, h, h' => by
    simp [nkey] at h
    subst h
    cases b with
    | str j => simp [nkey] at h'; rw [h']
    | tup ds =>
      simp only [nkey, Option.map_eq_some_iff] at h'
      obtain ⟨_, _, z⟩ := h'
      cases z
    | _ => simp [nkey] at h'
  | .tup ds, b, k, h, h' => by
    simp only [nkey, Option.map_eq_some_iff] at h
    obtain ⟨ks, h1, rfl⟩ := h
    cases b with
    | tup es =>
      simp only [nkey, Option.map_eq_some_iff] at h'
      obtain ⟨ks', h2, z⟩ := h'
      cases z
      rw [nkeyL_inj h1 h2]
    | _ => simp [nkey] at h'
  | .bl b, _, _, h, _ => by simp [nkey] at h
  | .lst b, _, _, h, _ => by simp [nkey] at h
  | .dct n b, _, _, h, _ => by simp [nkey] at h
  | .ins c b, _, _, h, _ => by simp [nkey] at h
  | .frl b, _, _, h, _ => by simp [nkey] at h
theorem nkeyL_inj : ∀ {a b : List D} {k : List NestedKey}, nkeyL a = some k → nkeyL b = some k → a = b
  | [], b, k, h, h' => by
    simp [nkeyL] at h
    subst h
    cases b with
    | nil => rfl
    | cons d ds =>
      unfold nkeyL at h'
      split at h'
      · cases h'
      · cases h'
  | d :: ds, b, k, h, h' => by
    unfold nkeyL at h
    split at h
    · rename_i k1 ks1 e1 e2
      cases h
      cases b with
      | nil => simp [nkeyL] at h'
      | cons d' ds' =>
        unfold nkeyL at h'
        split at h'
        · rename_i k2 ks2 e3 e4
          cases h'
          rw [nkey_inj e1 e3, nkeyL_inj e2 e4]
        · cases h'
    · cases h
end

/-! ### what a dict holds -/
section
variable {G : Gd} {H : Hp}
/-- looking up in both -/
theorem find_both {κ : Type} [DecidableEq κ] {f : D → Option κ} (inj : ∀ {a b k}, f a = some k → f b = some k → a = b) {k : D} {k' : κ} (hk : f k = some k') : ∀ {kvs : List (D × D)} {ps : List (κ × V)} {F : List Addr}, kvs.map (fun q => f q.1) = ps.map (fun q => some q.1) → RepL G H (kvs.map (·.2)) (ps.map (·.2)) F →
    (∀ d, aGet kvs k = some d → ∃ v F', aGet ps k' = some v ∧ Rep G H d v F' ∧ ∀ a ∈ F', a ∈ F) ∧ (aGet kvs k = none → aGet ps k' = none)
  | [], [], _, _, _ => ⟨fun _ h => by simp [aGet] at h, fun _ => rfl⟩
  | [], _ :: _, _, h, _ => by simp at h
  | _ :: _, [], _, h, _ => by simp at h
  | (a, x) :: kvs, (b, y) :: ps, F, h, r => by
    simp only [List.map_cons, List.cons.injEq] at h
    obtain ⟨h1, h2⟩ := h
    cases r with
    | cons r rs =>
      obtain ⟨i1, i2⟩ := find_both inj hk h2 rs
      unfold aGet
      by_cases e : a = k
      · subst e
        have eb : b = k' := by
          rw [hk] at h1
          exact (Option.some.inj h1).symm
        rw [if_pos rfl, if_pos eb]
        refine ⟨fun d hd => ?_, fun z => nomatch z⟩
        cases hd
        exact ⟨y, _, rfl, r, fun c hc => List.mem_append_left _ hc⟩
      · have eb : ¬ b = k' := fun z => e (inj (h1.trans (by rw [z])) hk)
        rw [if_neg e, if_neg eb]
        refine ⟨fun d hd => ?_, i2⟩
        obtain ⟨v, F', e1, e2, e3⟩ := i1 d hd
        exact ⟨v, F', e1, e2, fun c hc => List.mem_append_right _ (e3 c hc)⟩
theorem put_both {κ : Type} [DecidableEq κ] {f : D → Option κ} (inj : ∀ {a b k}, f a = some k → f b = some k → a = b) {k x : D} {k' : κ} {w : V} {Fx : List Addr} (hk : f k = some k') (rx : Rep G H x w Fx) (ndx : Fx.Nodup) : ∀ {kvs : List (D × D)} {ps : List (κ × V)} {F : List Addr}, kvs.map (fun q => f q.1) = ps.map (fun q => some q.1) → RepL G H (kvs.map (·.2)) (ps.map (·.2)) F → F.Nodup → (∀ a ∈ Fx, a ∉ F) →
    (aPut kvs k x).map (fun q => f q.1) = (aPut ps k' w).map (fun q => some q.1) ∧ ∃ F', RepL G H ((aPut kvs k x).map (·.2)) ((aPut ps k' w).map (·.2)) F' ∧ F'.Nodup ∧ ∀ a ∈ F', a ∈ F ∨ a ∈ Fx
  | [], [], _, _, _, _, _ => ⟨by simp [aPut, hk], Fx, RepL.one rx, ndx, fun _ h => .inr h⟩
  | [], _ :: _, _, h, _, _, _ => by simp at h
  | _ :: _, [], _, h, _, _, _ => by simp at h
  | (a, y) :: kvs, (b, v) :: ps, F, h, r, nd, dj => by
    simp only [List.map_cons, List.cons.injEq] at h
    obtain ⟨h1, h2⟩ := h
    cases r with
    | cons r rs =>
      obtain ⟨n1, n2, n3⟩ := List.nodup_append.mp nd
      obtain ⟨i1, F', i2, i3, i4⟩ := put_both inj hk rx ndx h2 rs n2 fun c hc z => dj c hc (List.mem_append_right _ z)
      unfold aPut
      by_cases e : a = k
      · subst e
        have eb : b = k' := by
          rw [hk] at h1
          exact (Option.some.inj h1).symm
        rw [if_pos rfl, if_pos eb]
        refine ⟨by simp only [List.map_cons, h1, h2], _, .cons rx rs, List.nodup_append.mpr ⟨ndx, n2, fun c hc d hd z => dj c hc (List.mem_append_right _ (z ▸ hd))⟩, fun c hc => ?_⟩
        rcases List.mem_append.mp hc with hc | hc
        · exact .inr hc
        · exact .inl (List.mem_append_right _ hc)
      · have eb : ¬ b = k' := fun z => e (inj (h1.trans (by rw [z])) hk)
        rw [if_neg e, if_neg eb]
        refine ⟨by simp only [List.map_cons, h1, i1], _, .cons r i2, List.nodup_append.mpr ⟨n1, i3, fun c hc d hd z => ?_⟩, fun c hc => ?_⟩
        · subst z
          rcases i4 c hd with q | q
          · exact n3 c hc c q rfl
          · exact dj c q (List.mem_append_left _ hc)
        · rcases List.mem_append.mp hc with hc | hc
          · exact .inl (List.mem_append_left _ hc)
          · rcases i4 c hc with q | q
            · exact .inl (List.mem_append_right _ q)
            · exact .inr q
theorem Rep.keyv {d : D} {v : V} {F : List Addr} {k : Key} (r : Rep G H d v F) (h : keyOf d = some k) : v = kV k := by
  cases r <;> simp [keyOf] at h <;> subst h <;> rfl
end
/-- a key for a dict of the kind n -/
def keyB (n : Bool) (d : D) : Bool := if n = true then (match d with
  | .tup _ => (match nkey d with
    | some k => decide (k.depth ≤ 8)
    | none => false)
  | _ => false) else (keyOf d).isSome

/-! ### the machine's dict operations over data -/
section
variable {X : Cx} {pins : List (Addr × Obj)} {σ : St} {H : Hp} {s : Shared} {a : Addr} {y v : V} {u r : Value} {A : Around} {E : Value → Shared → Prop} {n : Bool} {kvs : List (D × D)} {k d : D} {F Fk : List Addr}
abbrev gd (X : Cx) : Gd := ⟨X.prog, X.w, X.K⟩
mutual
theorem Rep.nested (I : Inv X pins σ H s) : ∀ {d : D} {v : V} {F : List Addr} {k : NestedKey} {u : Value}, Rep (gd X) H d v F → nkey d = some k → RelV v u → NestedIs s.heap k u
  | .non, _, _, k, u, .non, h, r => by
    simp [nkey] at h
    subst h
    cases r
    exact .none
  | .int i, _, _, k, u, .int _, h, r => by
    simp [nkey] at h
    subst h
    obtain ⟨t, rfl⟩ := r
    exact .int i t
  | .str i, _, _, k, u, .str _, h, r => by
    simp [nkey] at h
    subst h
    obtain ⟨t, rfl⟩ := r
    exact .text i t
  | .tup ds, _, _, k, u, .tup hs rl, h, r => by
    simp only [nkey, Option.map_eq_some_iff] at h
    obtain ⟨ks, h1, rfl⟩ := h
    cases r
    obtain ⟨its, rv, ⟨o, h2, h3, n, h4⟩, _⟩ := I.tuple hs
    exact .tup h2 h3 h4 (RepL.nested I rl h1 (by simpa using rv))
  | .bl b, _, _, _, _, _, h, _ => by simp [nkey] at h
  | .lst b, _, _, _, _, _, h, _ => by simp [nkey] at h
  | .dct n b, _, _, _, _, _, h, _ => by simp [nkey] at h
  | .ins c b, _, _, _, _, _, h, _ => by simp [nkey] at h
  | .frl b, _, _, _, _, _, h, _ => by simp [nkey] at h
theorem RepL.nested (I : Inv X pins σ H s) : ∀ {ds : List D} {vs : List V} {F : List Addr} {ks : List NestedKey} {us : List Value}, RepL (gd X) H ds vs F → nkeyL ds = some ks → Vals vs us → NestedAll s.heap ks us
  | [], _, _, ks, us, .nil, h, r => by
    simp [nkeyL] at h
    subst h
    cases r
    exact .nil
  | d :: ds, _, _, ks, us, .cons r rs, h, rv => by
    unfold nkeyL at h
    split at h
    · rename_i k1 ks1 e1 e2
      cases h
      cases rv with
      | cons r1 r2 => exact .cons (Rep.nested I r e1 r1) (RepL.nested I rs e2 r2)
    · cases h
end
theorem key_tup (I : Inv X pins σ H s) (rk : Rep (gd X) H k y Fk) (ry : RelV y u) (hk : keyB true k = true) : ∃ nk b, nkey k = some nk ∧ y = .ref b ∧ u = .ref b ∧ (nestedKind X.prog X.w).is s.heap nk b := by
  unfold keyB at hk
  rw [if_pos rfl] at hk
  cases rk with
  | tup hs rl =>
    have hk2 : (match nkey (.tup _) with
      | some k => decide (k.depth ≤ 8)
      | none => false) = true := hk
    rename_i b ds vs
    cases e : nkey (.tup ds) with
    | none =>
      rw [e] at hk2
      cases hk2
    | some nk =>
      rw [e] at hk2
      cases ry
      exact ⟨nk, b, rfl, rfl, rfl, (Rep.tup hs rl : Rep (gd X) H (.tup ds) (.ref b) Fk).nested I e rfl, of_decide_eq_true hk2⟩
  | _ => cases hk
/-- the tuple-keyed dict behind the abstract one -/
theorem ndct_at (I : Inv X pins σ H s) {ys : List Entry} (h : H a = some (ndct X.prog X.w a (ys.map unV))) (hk : kvs.map (fun q => nkey q.1) = ys.map (fun y => some y.1)) (dp : ∀ y ∈ ys, y.1.depth ≤ 8 ∧ RelV y.2.2.2 y.2.2.1) (rk : RepL (gd X) H (kvs.map (·.1)) (ys.map fun y => V.ref y.2.1) []) :
    (a == sysModules) = false ∧ ys.length ≤ sizeLine ∧ s.heap.DictOfH (nestedKind X.prog X.w) a (ys.map unV) := by
  obtain ⟨⟨h1, h2, h3, o, es, ep, h4, h5, h6, h7⟩, _, _⟩ := I.hok a _ h
  refine ⟨beq_eq_false_iff_ne.mpr h1, by rw [List.length_map] at h2; exact h2, o, es, ep, h4, h5, h6, h7, fun x hx => ?_, h3⟩
  obtain ⟨y, hy, rfl⟩ := List.mem_map.mp hx
  obtain ⟨i, hi⟩ := List.mem_iff_getElem?.mp hy
  have e1 : (kvs.map fun q => nkey q.1)[i]? = some (some y.1) := by rw [hk, List.getElem?_map, hi] <;> rfl
  rw [List.getElem?_map] at e1
  cases q : kvs[i]? with
  | none =>
    rw [q] at e1
    cases e1
  | some z =>
    rw [q] at e1
    have e2 : nkey z.1 = some y.1 := Option.some.inj e1
    obtain ⟨v, F', hv, r, _⟩ := rk.get (i := i) (d := z.1) (by rw [List.getElem?_map, q] <;> rfl)
    rw [List.getElem?_map, hi] at hv
    cases hv
    exact ⟨r.nested I e2 rfl, (dp y hy).1⟩
theorem atKey_get {nk : NestedKey} : ∀ {ys : List Entry}, (∀ y ∈ ys, RelV y.2.2.2 y.2.2.1) → (∀ v, aGet (ys.map fun y => (y.1, y.2.2.2)) nk = some v → ∃ p, atKey (ys.map unV) nk = some p ∧ RelV v p.2) ∧ (aGet (ys.map fun y => (y.1, y.2.2.2)) nk = none → atKey (ys.map unV) nk = none)
  | [], _ => ⟨fun _ h => by simp [aGet] at h, fun _ => rfl⟩
  | y :: ys, h => by
    obtain ⟨i1, i2⟩ := atKey_get (nk := nk) fun z hz => h z (List.mem_cons_of_mem _ hz)
    simp only [List.map_cons]
    unfold aGet
    by_cases e : y.1 = nk
    · have e3 : atKey (unV y :: ys.map unV) nk = some (y.2.1, y.2.2.1) := by
        unfold atKey
        rw [List.find?_cons_of_pos (p := fun x : NestedKey × Addr × Value => decide (x.1 = nk)) (show decide (y.1 = nk) = true from decide_eq_true e)]
        rfl
      rw [if_pos e]
      refine ⟨fun v hv => ?_, fun z => nomatch z⟩
      cases hv
      exact ⟨_, e3, h y List.mem_cons_self⟩
    · have e3 : atKey (unV y :: ys.map unV) nk = atKey (ys.map unV) nk := by
        unfold atKey
        rw [List.find?_cons_of_neg (p := fun x : NestedKey × Addr × Value => decide (x.1 = nk)) (show ¬ decide (y.1 = nk) = true by rw [decide_eq_false e]; exact Bool.false_ne_true)]
      rw [if_neg e, e3]
      exact ⟨i1, i2⟩
end
end VL

/-! The value layer, part L: the machine's dict operations over data. -/
namespace VL
open PySem PySem.Spec L2 D

/-! ### entries changed -/
def ePut : List Entry → NestedKey → Addr → Value → V → List Entry
  | [], k, b, u, v => [(k, b, u, v)]
  | y :: r, k, b, u, v => if y.1 = k then (y.1, y.2.1, u, v) :: r else y :: ePut r k b u v
theorem ePut_vals {k : NestedKey} {b : Addr} {u : Value} {v : V} : ∀ {ys : List Entry}, (ePut ys k b u v).map (fun y => (y.1, y.2.2.2)) = aPut (ys.map fun y => (y.1, y.2.2.2)) k v
  | [] => rfl
  | y :: r => by
    unfold ePut
    rw [List.map_cons]
    unfold aPut
    by_cases e : y.1 = k
    · rw [if_pos e, if_pos e] <;> rfl
    · rw [if_neg e, if_neg e, List.map_cons, ePut_vals]
theorem map_putAt_off {k : NestedKey} {u : Value} : ∀ {ys : List Entry}, k ∉ ys.map (·.1) → (ys.map unV).map (putAt k u) = ys.map unV
  | [], _ => rfl
  | y :: r, h => by
    simp only [List.map_cons, List.mem_cons, not_or] at h
    rw [List.map_cons, List.map_cons, map_putAt_off h.2]
    have e : putAt k u (unV y) = unV y := by
      unfold putAt
      exact if_neg fun z => h.1 z.symm
    rw [e]
theorem atKey_cons_pos {k : NestedKey} {x : NestedKey × Addr × Value} {r : List (NestedKey × Addr × Value)} (e : x.1 = k) : (atKey (x :: r) k).isSome = true := by
  unfold atKey
  rw [List.find?_cons_of_pos (p := fun x : NestedKey × Addr × Value => decide (x.1 = k)) (decide_eq_true e)]
  rfl
theorem atKey_cons_neg {k : NestedKey} {x : NestedKey × Addr × Value} {r : List (NestedKey × Addr × Value)} (e : ¬ x.1 = k) : atKey (x :: r) k = atKey r k := by
  unfold atKey
  rw [List.find?_cons_of_neg (p := fun x : NestedKey × Addr × Value => decide (x.1 = k)) (by rw [decide_eq_false e]; exact Bool.false_ne_true)]
theorem ePut_unV {k : NestedKey} {b : Addr} {u : Value} {v : V} : ∀ {ys : List Entry}, (ys.map (·.1)).Nodup → (ePut ys k b u v).map unV = storedH (ys.map unV) k b u
  | [], _ => rfl
  | y :: r, nd => by
    obtain ⟨n1, n2⟩ := List.nodup_cons.mp nd
    have ih := ePut_unV (k := k) (b := b) (u := u) (v := v) n2
    unfold ePut
    unfold storedH at ih ⊢
    by_cases e : y.1 = k
    · subst e
      rw [if_pos rfl, List.map_cons, List.map_cons, if_pos (atKey_cons_pos (show (unV y).1 = y.1 from rfl)), List.map_cons, map_putAt_off n1]
      have e2 : putAt y.1 u (unV y) = (y.1, y.2.1, u) := by
        unfold putAt
        exact if_pos rfl
      rw [e2]
      rfl
    · rw [if_neg e, List.map_cons, List.map_cons, atKey_cons_neg (show ¬ (unV y).1 = k from e)]
      by_cases h : (atKey (r.map unV) k).isSome = true
      · rw [if_pos h] at ih
        rw [if_pos h, List.map_cons, ih]
        have e2 : putAt k u (unV y) = unV y := by
          unfold putAt
          exact if_neg e
        rw [e2]
      · rw [if_neg h] at ih
        rw [if_neg h, List.cons_append, ih]
theorem ePut_mem {k : NestedKey} {b : Addr} {u : Value} {v : V} {y : Entry} : ∀ {ys : List Entry}, y ∈ ePut ys k b u v → y ∈ ys ∨ (y.1 = k ∧ y.2.2 = (u, v))
  | [], h => by
    simp [ePut] at h
    subst h
    exact .inr ⟨rfl, rfl⟩
  | z :: r, h => by
    unfold ePut at h
    split at h
    · rename_i e
      rcases List.mem_cons.mp h with rfl | h
      · exact .inr ⟨e, rfl⟩
      · exact .inl (List.mem_cons_of_mem _ h)
    · rcases List.mem_cons.mp h with rfl | h
      · exact .inl List.mem_cons_self
      · rcases ePut_mem h with q | q
        · exact .inl (List.mem_cons_of_mem _ q)
        · exact .inr q
theorem ePut_keyset {k : NestedKey} {b : Addr} {u : Value} {v : V} {ys : List Entry} : (ePut ys k b u v).map (·.1) = (aPut (ys.map fun y => (y.1, y.2.2.2)) k v).map (·.1) := by
  rw [← ePut_vals, List.map_map]
  rfl
theorem nil_append_nil {F G : List Addr} (h : F ++ G = []) : F = [] ∧ G = [] := List.append_eq_nil_iff.mp h
section
variable {G : Gd} {H : Hp}
theorem RepL.nil2 {d : D} {ds : List D} {v : V} {vs : List V} (r : RepL G H (d :: ds) (v :: vs) []) : Rep G H d v [] ∧ RepL G H ds vs [] := by
  generalize e : ([] : List Addr) = F at r
  cases r with
  | cons r rs =>
    obtain ⟨rfl, rfl⟩ := nil_append_nil e.symm
    exact ⟨r, rs⟩
theorem ePut_keyrep {k x : D} {nk : NestedKey} {b : Addr} {u : Value} {v : V} (hk : nkey k = some nk) (rk : Rep G H k (.ref b) []) : ∀ {kvs : List (D × D)} {ys : List Entry}, kvs.map (fun q => nkey q.1) = ys.map (fun y => some y.1) → RepL G H (kvs.map (·.1)) (ys.map fun y => V.ref y.2.1) [] →
    RepL G H ((aPut kvs k x).map (·.1)) ((ePut ys nk b u v).map fun y => V.ref y.2.1) []
  | [], [], _, _ => RepL.cons (F := []) (Fs := []) rk .nil
  | [], _ :: _, h, _ => by simp at h
  | _ :: _, [], h, _ => by simp at h
  | (a, z) :: kvs, y :: ys, h, r => by
    simp only [List.map_cons, List.cons.injEq] at h
    obtain ⟨r1, r2⟩ := RepL.nil2 r
    unfold aPut ePut
    by_cases e : a = k
    · subst e
      have e2 : y.1 = nk := by
        have := h.1.symm.trans hk
        exact Option.some.inj this
      rw [if_pos rfl, if_pos e2]
      exact RepL.cons (F := []) (Fs := []) r1 r2
    · have e2 : ¬ y.1 = nk := fun q => e (nkey_inj (h.1.trans (by rw [q])) hk)
      rw [if_neg e, if_neg e2]
      exact RepL.cons (F := []) (Fs := []) r1 (ePut_keyrep hk rk h.2 r2)
mutual
theorem nkey_imm : ∀ {d : D} {k : NestedKey}, nkey d = some k → d.imm = true
  | .non, _, _ => rfl
  | .int _, _, _ => rfl
  | .str _, _, _ => rfl
  | .tup ds, k, h => by
    simp only [nkey, Option.map_eq_some_iff] at h
    obtain ⟨ks, h1, _⟩ := h
    rw [D.imm]
    exact nkeyL_imm h1
  | .bl _, _, h => by simp [nkey] at h
  | .lst _, _, h => by simp [nkey] at h
  | .dct _ _, _, h => by simp [nkey] at h
  | .ins _ _, _, h => by simp [nkey] at h
  | .frl _, _, h => by simp [nkey] at h
theorem nkeyL_imm : ∀ {ds : List D} {ks : List NestedKey}, nkeyL ds = some ks → immL ds = true
  | [], _, _ => rfl
  | d :: ds, ks, h => by
    unfold nkeyL at h
    split at h
    · rename_i k1 ks1 e1 e2
      rw [D.immL, nkey_imm e1, nkeyL_imm e2]
      rfl
    · cases h
end
theorem keyOf_imm {d : D} {k : Key} (h : keyOf d = some k) : d.imm = true := by cases d <;> simp [keyOf] at h <;> rfl
theorem keyB_imm {n : Bool} {d : D} (h : keyB n d = true) : d.imm = true := by
  unfold keyB at h
  split at h
  · split at h
    · split at h
      · rename_i e
        exact nkey_imm e
      · cases h
    · cases h
  · obtain ⟨k, e⟩ := Option.isSome_iff_exists.mp h
    exact keyOf_imm e
end

section
variable {X : Cx} {pins : List (Addr × Obj)} {σ : St} {H : Hp} {s : Shared} {a : Addr} {y v : V} {u r : Value} {A : Around} {E : Value → Shared → Prop} {n : Bool} {kvs : List (D × D)} {k d : D} {F Fk Fv : List Addr}
theorem keys_of {ys : List Entry} (h : kvs.map (fun q => nkey q.1) = ys.map (fun y => some y.1)) : kvs.map (fun q => nkey q.1) = (ys.map fun y => (y.1, y.2.2.2)).map (fun q => some q.1) := by
  rw [List.map_map]
  exact h
theorem vals_of {G : Gd} {ys : List Entry} {ds : List D} (h : RepL G H ds (ys.map (·.2.2.2)) F) : RepL G H ds ((ys.map fun y => (y.1, y.2.2.2)).map (·.2)) F := by
  rw [List.map_map]
  exact h
theorem keyB_key (h : keyB false k = true) : ∃ kk, keyOf k = some kk := Option.isSome_iff_exists.mp (by simpa [keyB] using h)
theorem room_nested {A : Around} (hu : A.units + 16 < cLine) {P : Program} {w : World} : (nestedKind P w).room A.in1 := show A.units + 1 + 8 < cLine by omega
theorem dv_getItem {Q : Value → Shared → Prop} (hu : A.units + 16 < cLine) (I : Inv X pins σ H s) (rd : Rep (gd X) H (.dct n kvs) (.ref a) F) (rk : Rep (gd X) H k y Fk) (hk : keyB n k = true) (ry : RelV y u) (z : aGet kvs k = some d)
    (h : ∀ v F' w' s', Inv X pins σ H s' → Rep (gd X) H d v F' → (∀ b ∈ F', b ∈ F) → RelV v w' → Q w' s') : wpAny (model X.prog X.w) A (getItem (.ref a) u) Q E s := by
  cases rd with
  | dct ha nd hkk rl =>
    obtain ⟨kk, hkk2⟩ := keyB_key hk
    obtain ⟨v, F', e1, e2, e3⟩ := (find_both (f := keyOf) keyOf_inj hkk2 hkk rl).1 d z
    have ey := rk.keyv hkk2
    subst ey
    refine d_getItem (v := v) (by omega) I (by rw [← e1, ← valV_aGet]; exact DGet.k ha) ry fun w' s' I' rw' => h v F' w' s' I' e2 (fun b hb => List.mem_cons_of_mem _ (e3 b hb)) rw'
  | dcn ha nd hkk dp rk' rl =>
    obtain ⟨nk, b, h1, rfl, rfl, h4⟩ := key_tup I rk ry hk
    obtain ⟨hs, hl, dd⟩ := ndct_at I ha hkk dp rk'
    rename_i ys _
    obtain ⟨v, F', e1, e2, e3⟩ := (find_both (f := nkey) (ps := ys.map fun y => (y.1, y.2.2.2)) nkey_inj h1 (keys_of hkk) (vals_of rl)).1 d z
    obtain ⟨p, hp, rv⟩ := (atKey_get (fun y hy => (dp y hy).2)).1 v e1
    exact wpAny_getItem_heap (room_nested hu) h4 dd hp (h v F' p.2 _ (I.tok _) e2 (fun b hb => List.mem_cons_of_mem _ (e3 b hb)) rv)
theorem dv_in {Q : Value → Shared → Prop} (hu : A.units + 16 < cLine) (I : Inv X pins σ H s) (rd : Rep (gd X) H (.dct n kvs) (.ref a) F) (rk : Rep (gd X) H k y Fk) (hk : keyB n k = true) (ry : RelV y u)
    (h : ∀ s', Inv X pins σ H s' → Q (.bool (aGet kvs k).isSome) s') : wpAny (model X.prog X.w) A (compareOp .In u (.ref a)) Q E s := by
  cases rd with
  | dct ha nd hkk rl =>
    obtain ⟨kk, hkk2⟩ := keyB_key hk
    rename_i ps _
    have fb := find_both (f := keyOf) keyOf_inj hkk2 hkk rl
    have ey := rk.keyv hkk2
    subst ey
    refine d_in (by omega) I (DGet.k ha) ry fun s' I' => ?_
    rw [valV_aGet]
    have e : (aGet ps kk).isSome = (aGet kvs k).isSome := by
      cases q : aGet kvs k with
      | none => rw [fb.2 q] <;> rfl
      | some d =>
        obtain ⟨v, _, e1, _⟩ := fb.1 d q
        rw [e1] <;> rfl
    rw [e]
    exact h s' I'
  | dcn ha nd hkk dp rk' rl =>
    obtain ⟨nk, b, h1, rfl, rfl, h4⟩ := key_tup I rk ry hk
    obtain ⟨hs, hl, dd⟩ := ndct_at I ha hkk dp rk'
    rename_i ys _
    have fb := find_both (f := nkey) (ps := ys.map fun y => (y.1, y.2.2.2)) nkey_inj h1 (keys_of hkk) (vals_of rl)
    refine wpAny_in_heap (room_nested hu) h4 hs dd ?_
    have e : (atKey (ys.map unV) nk).isSome = (aGet kvs k).isSome := by
      cases q : aGet kvs k with
      | none => rw [(atKey_get (fun y hy => (dp y hy).2)).2 (fb.2 q)] <;> rfl
      | some d =>
        obtain ⟨v, _, e1, _⟩ := fb.1 d q
        obtain ⟨p, hp, _⟩ := (atKey_get (fun y hy => (dp y hy).2)).1 v e1
        rw [hp] <;> rfl
    rw [e]
    exact h _ (I.tok _)
theorem dv_notIn {Q : Value → Shared → Prop} (hu : A.units + 16 < cLine) (I : Inv X pins σ H s) (rd : Rep (gd X) H (.dct n kvs) (.ref a) F) (rk : Rep (gd X) H k y Fk) (hk : keyB n k = true) (ry : RelV y u)
    (h : ∀ s', Inv X pins σ H s' → Q (.bool (!(aGet kvs k).isSome)) s') : wpAny (model X.prog X.w) A (compareOp .NotIn u (.ref a)) Q E s := by
  cases rd with
  | dct ha nd hkk rl =>
    obtain ⟨kk, hkk2⟩ := keyB_key hk
    rename_i ps _
    have fb := find_both (f := keyOf) keyOf_inj hkk2 hkk rl
    have ey := rk.keyv hkk2
    subst ey
    refine d_notIn (by omega) I (DGet.k ha) ry fun s' I' => ?_
    rw [valV_aGet]
    have e : (aGet ps kk).isSome = (aGet kvs k).isSome := by
      cases q : aGet kvs k with
      | none => rw [fb.2 q] <;> rfl
      | some d =>
        obtain ⟨v, _, e1, _⟩ := fb.1 d q
        rw [e1] <;> rfl
    rw [e]
    exact h s' I'
  | dcn ha nd hkk dp rk' rl =>
    obtain ⟨nk, b, h1, rfl, rfl, h4⟩ := key_tup I rk ry hk
    obtain ⟨hs, hl, dd⟩ := ndct_at I ha hkk dp rk'
    rename_i ys _
    have fb := find_both (f := nkey) (ps := ys.map fun y => (y.1, y.2.2.2)) nkey_inj h1 (keys_of hkk) (vals_of rl)
    refine PyProof.Rows.wpAny_notIn_heap (room_nested hu) h4 hs dd ?_
    have e : (atKey (ys.map unV) nk).isSome = (aGet kvs k).isSome := by
      cases q : aGet kvs k with
      | none => rw [(atKey_get (fun y hy => (dp y hy).2)).2 (fb.2 q)] <;> rfl
      | some d =>
        obtain ⟨v, _, e1, _⟩ := fb.1 d q
        obtain ⟨p, hp, _⟩ := (atKey_get (fun y hy => (dp y hy).2)).1 v e1
        rw [hp] <;> rfl
    rw [e]
    exact h _ (I.tok _)
theorem ndct_ok {P : Program} {w : World} {H : Hp} {h : Heap} {ys : List Entry} (hs : (a == sysModules) = false) (hl : ys.length ≤ sizeLine) (nd : (ys.map (·.1)).Nodup) (dd : h.DictOfH (nestedKind P w) a (ys.map unV)) : ObjOk P w H h a (ndct P w a (ys.map unV)) := by
  obtain ⟨o, es, ep, h4, h5, h6, h7, _, h8⟩ := dd
  refine ⟨⟨beq_eq_false_iff_ne.mp hs, by rw [List.length_map]; exact hl, h8, o, es, ep, h4, h5, h6, h7⟩, ⟨o, h4⟩, fun h1 h2 hp hk => ?_⟩
  obtain ⟨z1, z2, z3, o', es', ep', g4, g5, g6, g7⟩ := hp
  exact ⟨z1, z2, z3, o', es', ep', hk _ g4, g5, g6, g7⟩
theorem dv_setItem {Q : Unit → Shared → Prop} (hu : A.units + 16 < cLine) (I : Inv X pins σ H s) (rd : Rep (gd X) H (.dct n kvs) (.ref a) F) (ndF : F.Nodup) (rk : Rep (gd X) H k y Fk) (hk : keyB n k = true) (ry : RelV y u) (rv : Rep (gd X) H d v Fv) (ndv : Fv.Nodup) (djv : ∀ b ∈ Fv, b ∉ F) (rr : RelV v r) (hl : kvs.length < 1000000)
    (h : ∀ H' F' s', Inv X pins σ H' s' → Rep (gd X) H' (.dct n (aPut kvs k d)) (.ref a) F' → F'.Nodup → (∀ b ∈ F', b ∈ F ∨ b ∈ Fv) → a ∈ F → Off (fun b => b = a) H H' → (∀ b, H' b = none → H b = none) → Q () s') :
    wpAny (model X.prog X.w) A (setItem (.ref a) u r) Q E s := by
  cases rd with
  | dct ha nd hkk rl =>
    obtain ⟨kk, hkk2⟩ := keyB_key hk
    have ey := rk.keyv hkk2
    subst ey
    obtain ⟨n1, n2⟩ := List.nodup_cons.mp ndF
    rename_i ps F0
    have lps : kvs.length = ps.length := by
      have := congrArg List.length hkk
      simpa using this
    obtain ⟨i1, F', i2, i3, i4⟩ := put_both keyOf_inj hkk2 rv ndv hkk rl n2 fun b hb z => djv b hb (List.mem_cons_of_mem _ z)
    have na : a ∉ F' := fun z => by
      rcases i4 a z with q | q
      · exact n1 q
      · exact djv a q List.mem_cons_self
    refine d_setItem (by omega) I (DPut.k (v := v) ha (line_of (by omega))) ry rr fun s' I' => ?_
    refine h _ (a :: F') s' I' (.dct (ps := aPut ps kk v) (by rw [upd_same, putK_aPut nd]) (aPut_nodup nd) i1 (i2.upd ha trivial na)) (List.nodup_cons.mpr ⟨na, i3⟩) (fun b hb => ?_) List.mem_cons_self upd_off fun b hb => upd_dom hb
    rcases List.mem_cons.mp hb with rfl | hb
    · exact .inl List.mem_cons_self
    · exact (i4 b hb).imp (List.mem_cons_of_mem _) id
  | dcn ha nd hkk dp rk' rl =>
    obtain ⟨nk, b, h1, rfl, rfl, h4⟩ := key_tup I rk ry hk
    obtain ⟨hs, hl2, dd⟩ := ndct_at I ha hkk dp rk'
    obtain ⟨n1, n2⟩ := List.nodup_cons.mp ndF
    rename_i ys F0
    have lps : kvs.length = ys.length := by
      have := congrArg List.length hkk
      simpa using this
    obtain ⟨i1, F', i2, i3, i4⟩ := put_both (f := nkey) (ps := ys.map fun y => (y.1, y.2.2.2)) nkey_inj h1 rv ndv (keys_of hkk) (vals_of rl) n2 fun b hb z => djv b hb (List.mem_cons_of_mem _ z)
    have na : a ∉ F' := fun z => by
      rcases i4 a z with q | q
      · exact n1 q
      · exact djv a q List.mem_cons_self
    refine wpAny_setItem_heap (hsz := by rw [List.length_map]; exact hl2) (room_nested hu) h4 dd fun h' dd' hs' => ?_
    rw [← ePut_unV (v := v) nd] at dd'
    have nd' : ((ePut ys nk b r v).map (·.1)).Nodup := by
      rw [ePut_keyset]
      exact aPut_nodup (by rw [List.map_map]; exact nd)
    have hl3 : (ePut ys nk b r v).length ≤ sizeLine := by
      have e1 : (ePut ys nk b r v).length = (aPut (ys.map fun y => (y.1, y.2.2.2)) nk v).length := by rw [← ePut_vals (b := b) (u := r), List.length_map]
      have e2 := aPut_length (k := nk) (v := v) (l := ys.map fun y => (y.1, y.2.2.2))
      rw [List.length_map] at e2
      exact line_le (by omega)
    have he : ∃ q, h'.get? a = some q := let ⟨q, _, _, hq, _⟩ := dd'; ⟨q, hq⟩
    have I' := d_write (t' := s.toks + (nestedKind X.prog X.w).draws nk) I (by rw [ha]; exact True.intro) hs' he (ndct_ok (H := upd H a (ndct X.prog X.w a ((ePut ys nk b r v).map unV))) hs hl3 nd' dd')
    have rk0 : Rep (gd X) H k (.ref b) [] := by
      have := rk.imm (keyB_imm hk)
      subst this
      exact rk
    refine h _ (a :: F') _ I' (.dcn (ys := ePut ys nk b r v) upd_same nd' (by rw [i1, ← ePut_vals (b := b) (u := r), List.map_map]; rfl) (fun y hy => ?_) ((ePut_keyrep h1 rk0 hkk rk').upd ha trivial (fun z => nomatch z)) (by
      have e := i2.upd (u := ndct X.prog X.w a ((ePut ys nk b r v).map unV)) ha trivial na
      rw [← ePut_vals (b := b) (u := r), List.map_map] at e
      exact e)) (List.nodup_cons.mpr ⟨na, i3⟩) (fun b hb => ?_) List.mem_cons_self upd_off fun b hb => upd_dom hb
    · rcases ePut_mem hy with q | ⟨q1, q2⟩
      · exact dp y q
      · obtain ⟨y1, y2, y3, y4⟩ := y
        cases q2
        exact ⟨by rw [show y1 = nk from q1]; exact h4.2, rr⟩
    · rcases List.mem_cons.mp hb with rfl | hb
      · exact .inl List.mem_cons_self
      · exact (i4 b hb).imp (List.mem_cons_of_mem _) id
theorem dv_typeIs (I : Inv X pins σ H s) (rd : Rep (gd X) H (.dct n kvs) (.ref a) F) : s.TypeIs (.ref a) "dict" := by
  cases rd with
  | dct ha nd hkk rl =>
    obtain ⟨_, _, vs, _, dd⟩ := dk_rd I.hok (.inl ha)
    exact dd.typeIs
  | dcn ha nd hkk dp rk' rl =>
    obtain ⟨hs, hl2, dd⟩ := ndct_at I ha hkk dp rk'
    exact dd.typeIs
end
end VL

/-! The value layer, part M: dicts in expressions and stores. -/
namespace VL
open PySem PySem.Spec L2 D

/-- the contexts are over G -/
abbrev Ov {ι : Type} (G : Gd) (Xs : ι → Cx) : Prop := ∀ j, gd (Xs j) = G
abbrev Hu {ι : Type} (Xs : ι → Cx) : Prop := ∀ j, (Xs j).A.units + 80 < cLine

def fInDct : D → D → Option D
  | k, .dct n kvs => if keyB n k = true then some (.bl (aGet kvs k).isSome) else none
  | _, _ => none
def fNotInDct : D → D → Option D
  | k, .dct n kvs => if keyB n k = true then some (.bl (!(aGet kvs k).isSome)) else none
  | _, _ => none
def fIxDct : D → D → Option D
  | .dct n kvs, k => if keyB n k = true then aGet kvs k else none
  | _, _ => none
section
variable {ι : Type} {G : Gd} {Xs : ι → Cx}
theorem Rep.dctv {H : Hp} {n : Bool} {kvs : List (D × D)} {v : V} {F : List Addr} (r : Rep G H (.dct n kvs) v F) : ∃ a F0, v = .ref a ∧ F = a :: F0 := by
  cases r with
  | dct h _ _ _ => exact ⟨_, _, rfl, rfl⟩
  | dcn h _ _ _ _ _ => exact ⟨_, _, rfl, rfl⟩
theorem op_inDct (ov : Ov G Xs) (hu : Hu Xs) : OP2 G Xs (compareOp .In) fInDct := by
  refine ⟨fun x y H Q => ∃ n kvs k F Fk a, y = .ref a ∧ Rep G H (.dct n kvs) (.ref a) F ∧ Rep G H k x Fk ∧ keyB n k = true ∧ Q (.bl (aGet kvs k).isSome) H, fun j => ?_, fun H d e z v u F F' Q rd re hz fr => ?_⟩
  · intro pins s σ H x y v u Q I rx ry h
    obtain ⟨n, kvs, k, F, Fk, a, rfl, rd, rk, hk, q⟩ := h
    cases ry
    rw [← ov j] at rd rk
    exact dv_in (by have := hu j; omega) I rd rk hk rx fun s' I' => ⟨.bl (aGet kvs k).isSome, H, I', rfl, q⟩
  · cases e with
    | dct n kvs =>
      have hz' : (if keyB n d = true then some (D.bl (aGet kvs d).isSome) else none) = some z := hz
      split at hz'
      · rename_i hk
        cases hz'
        obtain ⟨a, F0, rfl, rfl⟩ := re.dctv
        exact ⟨n, kvs, d, _, F, a, rfl, re, rd, hk, fr _ H [] (fun _ _ z => z) (.bl _) List.nodup_nil (fun _ h => nomatch h)⟩
      · cases hz'
    | _ => cases hz
theorem op_notInDct (ov : Ov G Xs) (hu : Hu Xs) : OP2 G Xs (compareOp .NotIn) fNotInDct := by
  refine ⟨fun x y H Q => ∃ n kvs k F Fk a, y = .ref a ∧ Rep G H (.dct n kvs) (.ref a) F ∧ Rep G H k x Fk ∧ keyB n k = true ∧ Q (.bl (!(aGet kvs k).isSome)) H, fun j => ?_, fun H d e z v u F F' Q rd re hz fr => ?_⟩
  · intro pins s σ H x y v u Q I rx ry h
    obtain ⟨n, kvs, k, F, Fk, a, rfl, rd, rk, hk, q⟩ := h
    cases ry
    rw [← ov j] at rd rk
    exact dv_notIn (by have := hu j; omega) I rd rk hk rx fun s' I' => ⟨.bl (!(aGet kvs k).isSome), H, I', rfl, q⟩
  · cases e with
    | dct n kvs =>
      have hz' : (if keyB n d = true then some (D.bl (!(aGet kvs d).isSome)) else none) = some z := hz
      split at hz'
      · rename_i hk
        cases hz'
        obtain ⟨a, F0, rfl, rfl⟩ := re.dctv
        exact ⟨n, kvs, d, _, F, a, rfl, re, rd, hk, fr _ H [] (fun _ _ z => z) (.bl _) List.nodup_nil (fun _ h => nomatch h)⟩
      · cases hz'
    | _ => cases hz
/-- d[k], by values -/
def rIxDct (G : Gd) : R2 := fun x y H Q => ∃ n kvs k d F Fk a, x = .ref a ∧ Rep G H (.dct n kvs) (.ref a) F ∧ Rep G H k y Fk ∧ keyB n k = true ∧ aGet kvs k = some d ∧ ∀ v F', Rep G H d v F' → (∀ b ∈ F', b ∈ F) → Q v H
theorem ixr_dct {X : Cx} (hu : X.A.units + 80 < cLine) : IxR X (rIxDct (gd X)) := by
  intro value slice pins s σ H x y v u Q I rx ry h hs
  obtain ⟨n, kvs, k, d, F, Fk, a, rfl, rd, rk, hk, e, q⟩ := h
  cases rx
  exact PyProof.Rows.tail_any (dv_typeIs I rd) PySem.F.slot_dict_getitem.lookup (dv_getItem (by omega) I rd rk hk ry e fun v F' w' s' I' r' sub rw' => ⟨v, H, I', rw', q v F' r' sub⟩) hs
theorem ix_dct (ov : Ov G Xs) (hu : Hu Xs) : IX G Xs fIxDct := by
  refine ⟨rIxDct G, fun j => by have := ixr_dct (hu j); rw [ov j] at this; exact this, fun H d e z v u F F' Q rd re hz fr => ?_⟩
  cases d with
  | dct n kvs =>
    have hz' : (if keyB n e = true then aGet kvs e else none) = some z := hz
    split at hz'
    · rename_i hk
      obtain ⟨a, F0, rfl, rfl⟩ := rd.dctv
      exact ⟨n, kvs, e, z, _, F', a, rfl, rd, re, hk, hz', fun v F2 r sub => fr v H F2 (fun _ _ z => z) r sub⟩
    · cases hz'
  | _ => cases hz
end

/-! ### {} -/
def emptyO (G : Gd) (n : Bool) (a : Addr) : HO := if n = true then ndct G.P G.w a [] else .dK []
theorem emptyO_cell {G : Gd} {n : Bool} {a : Addr} : Cell (emptyO G n a) := by cases n <;> trivial
theorem rep_empty {G : Gd} {H : Hp} {n : Bool} {a : Addr} (h : H a = some (emptyO G n a)) : Rep G H (.dct n []) (.ref a) [a] := by
  cases n with
  | false => exact .dct (ps := []) h List.nodup_nil rfl .nil
  | true => exact .dcn (ys := []) h List.nodup_nil rfl (fun _ h => nomatch h) .nil .nil
theorem empty_ok {P : Program} {w : World} {K : PySem.W.Frag} {H : Hp} {n : Bool} (h : Heap) (hb : sysModules < h.objs.size) : ObjOk P w H (h.push { cls := .type "dict", data := .dict #[] }) h.objs.size (emptyO ⟨P, w, K⟩ n h.objs.size) := by
  cases n with
  | false => exact dk_empty h hb
  | true => exact ndct_ok (ys := []) (beq_eq_false_iff_ne.mpr (Ne.symm (Nat.ne_of_lt hb))) (Nat.zero_le _) List.nodup_nil (Heap.DictOfH.new h)
def tDNew (G : Gd) (n : Bool) : TE := fun _ H Q => ∀ p, H p = none → Q (.ref p) (upd H p (emptyO G n p))
theorem pe_dnew {X : Cx} {n : Bool} {pos : Pos} : PE X (.Dict [] [] pos) (tDNew (gd X) n) := ⟨fun pins s σ H Q I h =>
  wpAny_Dict_empty ⟨.ref s.heap.objs.size, _, I.laid (a := s.heap.objs.size) (o := emptyO (gd X) n s.heap.objs.size) (t' := s.toks) (fun _ _ q => Heap.get?_push_of_some _ q) (Nat.le_refl _) (empty_ok s.heap I.big), rfl, h _ (I.hok.fresh (Nat.le_refl _))⟩⟩
section
variable {ι : Type} {G : Gd} {Xs : ι → Cx} {M T S Tv Tr : List Nat} {o : Bool} {pos : Pos} {np : Nat}
theorem ev_dnew (n : Bool) (ov : Ov G Xs) : EV G Xs M [] [] true (.Dict [] [] pos) (gPure (.dct n [])) := by
  refine ⟨tDNew G n, fun j => by have := pe_dnew (X := Xs j) (n := n) (pos := pos); rw [ov j] at this; exact this, fun C Fs σ H st d st' Q hM r hg q => ?_⟩
  cases hg
  intro p hp
  have sm : Same H (upd H p (emptyO G n p)) := same_upd hp
  refine q (.ref p) _ [p] Fs (r.same sm) (rep_empty upd_same) (Eff.pure sm []) (Res.new (H := H) r (by simp) fun a h => ?_)
  cases List.mem_singleton.mp h
  exact hp

/-! ### displays -/
def EK {ι : Type} (G : Gd) (Xs : ι → Cx) (M T : List Nat) (pos : Pos) (keys : List (Option Expr)) (vals : List Expr) (g : DSt → Option (List (D × D) × DSt)) : Prop :=
  ∃ trs, (∀ j, PPs (Xs j) pos keys vals trs) ∧ ∀ (C : Act) (Fs : Nat → List Addr) (σ : St) (H : Hp) (st : DSt) (kvs : List (D × D)) (st' : DSt) (Q : List (V × V) → Hp → Prop), C.M = M → SR G C Fs σ H st → g st = some (kvs, st') →
    (∀ ps H' F Fs', kvs.length = keys.length → SR G C Fs' σ H' st' → RepL G H' (kvs.map (·.1)) (ps.map (·.1)) [] → RepL G H' (kvs.map (·.2)) (ps.map (·.2)) F → Eff T Fs H st Fs' H' st' → Res M [] true H Fs' F → Q ps H') → tPairs trs σ H Q
def gkNil : DSt → Option (List (D × D) × DSt) := fun st => some ([], st)
def gkCons (gk gv : DSt → Option (D × DSt)) (gr : DSt → Option (List (D × D) × DSt)) : DSt → Option (List (D × D) × DSt) := fun st => (gk st).bind fun p => if p.1.imm = true then (gv p.2).bind fun q => (gr q.2).bind fun r => some ((p.1, q.1) :: r.1, r.2) else none
theorem gkCons_some {gk gv : DSt → Option (D × DSt)} {gr : DSt → Option (List (D × D) × DSt)} {st st' : DSt} {kvs : List (D × D)} (h : gkCons gk gv gr st = some (kvs, st')) : ∃ k s1 v s2 r, gk st = some (k, s1) ∧ k.imm = true ∧ gv s1 = some (v, s2) ∧ gr s2 = some (r, st') ∧ kvs = (k, v) :: r := by
  unfold gkCons at h
  obtain ⟨⟨k, s1⟩, e1, h⟩ := Option.bind_eq_some_iff.mp h
  dsimp only at h
  split at h
  · rename_i hi
    obtain ⟨⟨v, s2⟩, e2, h⟩ := Option.bind_eq_some_iff.mp h
    obtain ⟨⟨r, s3⟩, e3, h⟩ := Option.bind_eq_some_iff.mp h
    cases h
    exact ⟨k, s1, v, s2, r, e1, hi, e2, e3, rfl⟩
  · cases h
theorem ek_nil : EK G Xs M [] pos [] [] gkNil := by
  refine ⟨[], fun _ => pps_nil, fun C Fs σ H st kvs st' Q hM r hg q => ?_⟩
  cases hg
  exact q [] H [] Fs rfl r .nil .nil (Eff.pure (fun _ _ z => z) []) Res.nil
theorem ek_cons {k v : Expr} {ks : List (Option Expr)} {vs : List Expr} {gk gv : DSt → Option (D × DSt)} {gr : DSt → Option (List (D × D) × DSt)} (hk : EV G Xs M T S o k gk) (hv : EV G Xs M Tv [] true v gv) (hr : EK G Xs M Tr pos ks vs gr) (ok : Ok M [] Tv = true := by decide) (ok' : Ok M [] Tr = true := by decide) :
    EK G Xs M (T ++ (Tv ++ Tr)) pos (some k :: ks) (v :: vs) (gkCons gk gv gr) := by
  obtain ⟨t1, p1, k1⟩ := hk
  obtain ⟨t2, p2, k2⟩ := hv
  obtain ⟨t3, p3, k3⟩ := hr
  refine ⟨_, fun j => pps_cons (p1 j) (p2 j) (p3 j), fun C Fs σ H st kvs st' Q hM r hg q => ?_⟩
  obtain ⟨kd, s1, vd, s2, rest, e1, hi, e2, e3, rfl⟩ := gkCons_some hg
  refine k1 C Fs σ H st kd s1 _ hM r e1 fun x H1 F1 Fs1 r1 rd1 ef1 rs1 => ?_
  have := rd1.imm hi
  subst this
  refine k2 C Fs1 σ H1 s1 vd s2 _ hM r1 e2 fun y H2 F2 Fs2 r2 rd2 ef2 rs2 => ?_
  have rk2 : Rep G H2 kd x [] := rd1.off (W := fun a => ∃ i ∈ Tv, a ∈ Fs1 i) (fun a ⟨i, _, h⟩ => r1.cell h) ef2.off fun _ h => nomatch h
  refine k3 C Fs2 σ H2 s2 rest st' _ hM r2 e3 fun ps H3 F3 Fs3 l3 r3 rk3 rv3 ef3 rs3 => ?_
  have rk4 : Rep G H3 kd x [] := rk2.off (W := fun a => ∃ i ∈ Tr, a ∈ Fs2 i) (fun a ⟨i, _, h⟩ => r2.cell h) ef3.off fun _ h => nomatch h
  have rv4 : Rep G H3 vd y F2 := rd2.held hM r2 rs2 ef3 (Ok.of ok')
  have rs4 : Res M [] true H1 Fs3 F2 := rs2.held ef3 fun a h => rd2.dom h
  refine q ((x, y) :: ps) H3 (F2 ++ F3) Fs3 (by rw [List.length_cons, List.length_cons, l3]) r3 (RepL.cons (F := []) (Fs := []) rk4 rk3) (RepL.cons rv4 rv3) (ef1.trans (ef2.trans ef3)) ⟨fun i hi hs a h z => ?_, fun _ => List.nodup_append.mpr ⟨rs2.nd rfl, rs3.nd rfl, fun a ha b hb e => ?_⟩, fun _ a h => ?_, fun _ i a h z => ?_⟩
  · rcases List.mem_append.mp h with h | h
    · exact rs4.sh i hi hs a h z
    · exact rs3.sh i hi hs a h z
  · subst e
    exact rd2.dom ha (rs3.nw rfl a hb)
  · rcases List.mem_append.mp h with h | h
    · exact ef1.dom a (rs2.nw rfl a h)
    · exact ef1.dom a (ef2.dom a (rs3.nw rfl a h))
  · rcases List.mem_append.mp h with h | h
    · exact rs4.ap rfl i a h z
    · exact rs3.ap rfl i a h z
def aPuts {κ β : Type} [DecidableEq κ] (l kvs : List (κ × β)) : List (κ × β) := kvs.foldl (fun l q => aPut l q.1 q.2) l
def gDisp (n : Bool) (g : DSt → Option (List (D × D) × DSt)) : DSt → Option (D × DSt) := fun st => (g st).bind fun p => if p.1.all (fun q => keyB n q.1) = true then some (.dct n (aPuts [] p.1), p.2) else none
end
section
variable {G : Gd} {H : Hp}
theorem aPuts_nodup {κ β : Type} [DecidableEq κ] : ∀ {more kvs : List (κ × β)}, (kvs.map (·.1)).Nodup → ((aPuts kvs more).map (·.1)).Nodup
  | [], _, h => h
  | (k, v) :: more, kvs, h => aPuts_nodup (more := more) (aPut_nodup (k := k) (v := v) h)
theorem aPuts_length {κ β : Type} [DecidableEq κ] : ∀ {more kvs : List (κ × β)}, (aPuts kvs more).length ≤ kvs.length + more.length
  | [], _ => Nat.le_refl _
  | (k, v) :: more, kvs => by
    have h1 := aPuts_length (more := more) (kvs := aPut kvs k v)
    have h2 := aPut_length (k := k) (v := v) (l := kvs)
    show (aPuts (aPut kvs k v) more).length ≤ _
    rw [List.length_cons]
    omega
theorem puts_both {κ : Type} [DecidableEq κ] {f : D → Option κ} (inj : ∀ {a b k}, f a = some k → f b = some k → a = b) : ∀ {more kvs : List (D × D)} {mps ps : List (κ × V)} {Fm F : List Addr}, kvs.map (fun q => f q.1) = ps.map (fun q => some q.1) → RepL G H (kvs.map (·.2)) (ps.map (·.2)) F →
    more.map (fun q => f q.1) = mps.map (fun q => some q.1) → RepL G H (more.map (·.2)) (mps.map (·.2)) Fm → F.Nodup → Fm.Nodup → (∀ a ∈ Fm, a ∉ F) →
    (aPuts kvs more).map (fun q => f q.1) = (aPuts ps mps).map (fun q => some q.1) ∧ ∃ F', RepL G H ((aPuts kvs more).map (·.2)) ((aPuts ps mps).map (·.2)) F' ∧ F'.Nodup ∧ ∀ a ∈ F', a ∈ F ∨ a ∈ Fm
  | [], kvs, [], ps, Fm, F, h1, h2, _, _, h5, _, _ => ⟨h1, F, h2, h5, fun _ h => .inl h⟩
  | [], _, _ :: _, _, _, _, _, _, h, _, _, _, _ => by simp at h
  | _ :: _, _, [], _, _, _, _, _, h, _, _, _, _ => by simp at h
  | (k, x) :: more, kvs, (k', w) :: mps, ps, Fm, F, h1, h2, h3, h4, h5, h6, h7 => by
    simp only [List.map_cons, List.cons.injEq] at h3 h4
    cases h4 with
    | cons r rs =>
      obtain ⟨n1, n2, n3⟩ := List.nodup_append.mp h6
      obtain ⟨i1, F', i2, i3, i4⟩ := put_both inj h3.1 r n1 h1 h2 h5 fun a ha => h7 a (List.mem_append_left _ ha)
      obtain ⟨j1, F2, j2, j3, j4⟩ := puts_both inj i1 i2 h3.2 rs i3 n2 fun a ha z => by
        rcases i4 a z with q | q
        · exact h7 a (List.mem_append_right _ ha) q
        · exact n3 a q a ha rfl
      refine ⟨j1, F2, j2, j3, fun a ha => ?_⟩
      rcases j4 a ha with q | q
      · exact (i4 a q).imp id fun z => List.mem_append_left _ z
      · exact .inr (List.mem_append_right _ q)
theorem mergeK_aPuts : ∀ {more kvs : List (Key × V)}, (kvs.map (·.1)).Nodup → mergeK kvs more = aPuts kvs more
  | [], _, _ => rfl
  | (k, v) :: more, kvs, h => by
    show mergeK (putK kvs k v) more = aPuts (aPut kvs k v) more
    rw [putK_aPut h, mergeK_aPuts (aPut_nodup h)]
/-- the pairs by keys of ints and texts -/
theorem keys_flat : ∀ {kvs : List (D × D)} {ps : List (V × V)}, (kvs.all fun q => keyB false q.1) = true → RepL G H (kvs.map (·.1)) (ps.map (·.1)) [] → ∃ kk : List (Key × V), ps = kk.map (fun kv => (kV kv.1, kv.2)) ∧ kvs.map (fun q => keyOf q.1) = kk.map (fun q => some q.1)
  | [], [], _, _ => ⟨[], rfl, rfl⟩
  | [], _ :: _, _, r => by cases r
  | _ :: _, [], _, r => by cases r
  | (k, x) :: kvs, (y, w) :: ps, hb, r => by
    rw [List.all_cons, Bool.and_eq_true] at hb
    obtain ⟨r1, r2⟩ := RepL.nil2 r
    obtain ⟨kk, e1, e2⟩ := keys_flat hb.2 r2
    obtain ⟨k', hk'⟩ := keyB_key hb.1
    refine ⟨(k', w) :: kk, ?_, ?_⟩
    · have e : y = kV k' := r1.keyv hk'
      rw [List.map_cons, ← e1, e]
    · rw [List.map_cons, List.map_cons, e2, hk']
def ePuts (l es : List Entry) : List Entry := es.foldl (fun l e => ePut l e.1 e.2.1 e.2.2.1 e.2.2.2) l
theorem ePut_nodup {ys : List Entry} {k : NestedKey} {b : Addr} {u : Value} {v : V} (h : (ys.map (·.1)).Nodup) : ((ePut ys k b u v).map (·.1)).Nodup := by
  rw [ePut_keyset]
  exact aPut_nodup (by rw [List.map_map]; exact h)
theorem ePuts_unV : ∀ {es ys : List Entry}, (ys.map (·.1)).Nodup → (ePuts ys es).map unV = storedAllH (ys.map unV) (es.map unV)
  | [], _, _ => rfl
  | e :: es, ys, h => by
    show (ePuts (ePut ys e.1 e.2.1 e.2.2.1 e.2.2.2) es).map unV = storedAllH (storedH (ys.map unV) e.1 e.2.1 e.2.2.1) (es.map unV)
    rw [ePuts_unV (ePut_nodup h), ePut_unV h]
theorem ePuts_nodup : ∀ {es ys : List Entry}, (ys.map (·.1)).Nodup → ((ePuts ys es).map (·.1)).Nodup
  | [], _, h => h
  | e :: es, ys, h => ePuts_nodup (es := es) (ePut_nodup h)
theorem ePuts_vals : ∀ {es ys : List Entry}, (ePuts ys es).map (fun y => (y.1, y.2.2.2)) = aPuts (ys.map fun y => (y.1, y.2.2.2)) (es.map fun y => (y.1, y.2.2.2))
  | [], _ => rfl
  | e :: es, ys => by
    show (ePuts (ePut ys e.1 e.2.1 e.2.2.1 e.2.2.2) es).map (fun y => (y.1, y.2.2.2)) = aPuts (aPut (ys.map fun y => (y.1, y.2.2.2)) e.1 e.2.2.2) (es.map fun y => (y.1, y.2.2.2))
    rw [ePuts_vals, ePut_vals]
theorem ePuts_mem {P : Entry → Prop} (hP : ∀ y y' : Entry, y'.1 = y.1 → y'.2.2 = y.2.2 → P y → P y') : ∀ {es ys : List Entry}, (∀ y ∈ ys, P y) → (∀ y ∈ es, P y) → ∀ y ∈ ePuts ys es, P y
  | [], _, h, _ => h
  | e :: es, ys, h, h' => ePuts_mem hP (es := es) (fun y hy => by
      rcases ePut_mem hy with q | ⟨q1, q2⟩
      · exact h y q
      · exact hP e y q1 q2 (h' e List.mem_cons_self)) fun y hy => h' y (List.mem_cons_of_mem _ hy)
theorem ePuts_keyrep : ∀ {more kvs : List (D × D)} {es ys : List Entry}, kvs.map (fun q => nkey q.1) = ys.map (fun y => some y.1) → RepL G H (kvs.map (·.1)) (ys.map fun y => V.ref y.2.1) [] → more.map (fun q => nkey q.1) = es.map (fun y => some y.1) → RepL G H (more.map (·.1)) (es.map fun y => V.ref y.2.1) [] →
    RepL G H ((aPuts kvs more).map (·.1)) ((ePuts ys es).map fun y => V.ref y.2.1) []
  | [], _, [], _, _, h, _, _ => h
  | [], _, _ :: _, _, _, _, h, _ => by simp at h
  | _ :: _, _, [], _, _, _, h, _ => by simp at h
  | (k, x) :: more, kvs, e :: es, ys, h1, h2, h3, h4 => by
    simp only [List.map_cons, List.cons.injEq] at h3
    obtain ⟨r1, r2⟩ := RepL.nil2 h4
    have h1' : (aPut kvs k x).map (fun q => nkey q.1) = (ePut ys e.1 e.2.1 e.2.2.1 e.2.2.2).map (fun y => some y.1) := by
      have e1 := ePut_vals (ys := ys) (k := e.1) (b := e.2.1) (u := e.2.2.1) (v := e.2.2.2)
      have e2 : (ePut ys e.1 e.2.1 e.2.2.1 e.2.2.2).map (fun y => some y.1) = (aPut (ys.map fun y => (y.1, y.2.2.2)) e.1 e.2.2.2).map (fun q => some q.1) := by
        rw [← e1, List.map_map]
        rfl
      rw [e2]
      have aux : ∀ {kvs : List (D × D)} {ps : List (NestedKey × V)}, kvs.map (fun q => nkey q.1) = ps.map (fun q => some q.1) → (aPut kvs k x).map (fun q => nkey q.1) = (aPut ps e.1 e.2.2.2).map (fun q => some q.1) := by
        intro kvs
        induction kvs with
        | nil =>
          intro ps hp
          cases ps with
          | nil => simp [aPut, h3.1]
          | cons _ _ => simp at hp
        | cons a kvs ih =>
          intro ps hp
          cases ps with
          | nil => simp at hp
          | cons b ps =>
            simp only [List.map_cons, List.cons.injEq] at hp
            obtain ⟨a1, a2⟩ := a
            obtain ⟨b1, b2⟩ := b
            unfold aPut
            by_cases q : a1 = k
            · subst q
              have : b1 = e.1 := Option.some.inj (hp.1.symm.trans h3.1)
              rw [if_pos rfl, if_pos this, List.map_cons, List.map_cons, hp.1, hp.2]
            · have : ¬ b1 = e.1 := fun z => q (nkey_inj (hp.1.trans (by rw [z])) h3.1)
              rw [if_neg q, if_neg this, List.map_cons, List.map_cons, hp.1, ih hp.2]
      exact aux (keys_of h1)
    exact ePuts_keyrep (kvs := aPut kvs k x) (ys := ePut ys e.1 e.2.1 e.2.2.1 e.2.2.2) h1' (ePut_keyrep h3.1 r1 h1 h2) h3.2 r2
end
end VL

/-! The value layer, part N: dict displays, stores into dicts and lists, dict places. -/
namespace VL
open PySem PySem.Spec L2 D

section
variable {G : Gd} {C : Act} {Fs : Nat → List Addr} {σ : St} {H : Hp} {st : DSt} {p : Addr} {o u : HO}
theorem SR.upd_apart (r : SR G C Fs σ H st) (hp : H p = some o) (hc : Cell o) (n : ∀ i, p ∉ Fs i) (np : C.Pr p = none) : SR G C Fs σ (L2.upd H p u) st :=
  ⟨r.len, fun i d e => let ⟨v, h1, h2⟩ := r.rep i d e; ⟨v, h1, h2.upd hp hc (n i)⟩, r.emp, r.ndo, r.dj, r.owno, fun a w e => by
    rw [upd_ne fun z => by rw [z, np] at e; cases e]
    exact r.pr a w e, r.prd, fun a e => r.up a (upd_dom e), r.pin, r.mo⟩
end

section
variable {X : Cx} {pins : List (Addr × Obj)} {σ : St} {H : Hp} {s : Shared}
theorem keys_nest (I : Inv X pins σ H s) : ∀ {kvs : List (D × D)} {ps : List (V × V)} {ws : List (Value × Value)}, (kvs.all fun q => keyB true q.1) = true → RepL (gd X) H (kvs.map (·.1)) (ps.map (·.1)) [] → VV ps ws →
    ∃ es : List Entry, kvs.map (fun q => nkey q.1) = es.map (fun e => some e.1) ∧ ps = es.map (fun e => (V.ref e.2.1, e.2.2.2)) ∧ CarriesH (nestedKind X.prog X.w) s.heap ws (es.map unV) ∧ ∀ e ∈ es, e.1.depth ≤ 8 ∧ RelV e.2.2.2 e.2.2.1
  | [], [], _, _, _, .nil => ⟨[], rfl, rfl, trivial, fun _ h => nomatch h⟩
  | [], _ :: _, _, _, r, _ => by cases r
  | _ :: _, [], _, _, r, _ => by cases r
  | (k, x) :: kvs, (y, w) :: ps, (ku, xu) :: ws, hb, r, .cons hv rv => by
    rw [List.all_cons, Bool.and_eq_true] at hb
    obtain ⟨r1, r2⟩ := RepL.nil2 r
    obtain ⟨es, e1, e2, e3, e4⟩ := keys_nest I hb.2 r2 rv
    obtain ⟨nk, b, h1, h2, h3, h4⟩ := key_tup I r1 hv.1 hb.1
    have h2' : y = V.ref b := h2
    have h3' : ku = Value.ref b := h3
    subst h2' h3'
    refine ⟨(nk, b, xu, w) :: es, ?_, ?_, ⟨rfl, rfl, h4, e3⟩, fun e he => ?_⟩
    · rw [List.map_cons, List.map_cons, e1]
      show nkey k :: _ = _
      rw [h1]
    · rw [List.map_cons, ← e2]
    · rcases List.mem_cons.mp he with rfl | he
      · exact ⟨h4.2, hv.2⟩
      · exact e4 e he
def tDispV (G : Gd) (n : Bool) (trs : List (TE × TE)) : TE := fun σ H Q => ∀ p, H p = none → tPairs trs σ (upd H p (emptyO G n p)) fun ps H2 => H2 p = some (emptyO G n p) ∧ ps.length ≤ 15 ∧ ∃ kvs F, RepL G H2 (kvs.map (·.1)) (ps.map (·.1)) [] ∧ RepL G H2 (kvs.map (·.2)) (ps.map (·.2)) F ∧ F.Nodup ∧ p ∉ F ∧ (kvs.all fun q => keyB n q.1) = true ∧
  ∀ u F', Rep G (upd H2 p u) (.dct n (aPuts [] kvs)) (.ref p) F' → F'.Nodup → (∀ a ∈ F', a = p ∨ a ∈ F) → Q (.ref p) (upd H2 p u)
theorem vals_flat {ps : List (V × V)} {kk : List (Key × V)} (h : ps = kk.map (fun kv => (kV kv.1, kv.2))) : ps.map (·.2) = kk.map (·.2) := by
  rw [h, List.map_map]
  rfl
theorem repL_eq {G : Gd} {H : Hp} {ds : List D} {vs ws : List V} {F : List Addr} (r : RepL G H ds vs F) (e : vs = ws) : RepL G H ds ws F := e ▸ r
theorem pe_dispV {n : Bool} {pos : Pos} {keys : List (Option Expr)} {values : List Expr} {trs : List (TE × TE)} (hu : X.A.units + 80 < cLine) (h : PPs X pos keys values trs) (hall : keys.all (·.isSome) = true) (hl : keys.length = values.length) (h0 : keys ≠ [])
    (h15 : keys.length ≤ 15) : PE X (.Dict keys values pos) (tDispV (gd X) n trs) := by
  refine ⟨fun pins s σ H Q I q => ?_⟩
  have hn := I.hok.fresh (Nat.le_refl s.heap.objs.size)
  have I1 := I.laid (a := s.heap.objs.size) (o := emptyO (gd X) n s.heap.objs.size) (h' := s.heap.push { cls := .type "dict", data := .dict #[] }) (t' := s.toks) (fun _ _ q => Heap.get?_push_of_some _ q) (Nat.le_refl _) (empty_ok s.heap I.big)
  have ne : ∀ {s2 : Shared} {h' : Heap}, (s2.heap.get? s.heap.objs.size).isSome = true → True := fun _ => trivial
  cases n with
  | false =>
    refine wpAny_Dict_walk (knd := mixKind X.prog X.w) hall hl h0 h15 (thn (h.run pins _ σ _ _ I1 (q _ hn)) fun ws s2 ⟨ps, H2, I2, rel, e, l15, kvs, F, rk, rvl, nd, np, hb, q2⟩ => ?_)
    obtain ⟨kk, ep, ek⟩ := keys_flat hb rk
    rw [ep] at rel
    obtain ⟨rs, c, rkk⟩ := carries_of (P := X.prog) (w := X.w) rel
    obtain ⟨z, hd, vs0, r0, dd⟩ := dk_of I2.hok e
    cases r0
    refine ⟨rs, c, dd, fun h' dd' hs => ⟨.ref s.heap.objs.size, upd H2 s.heap.objs.size (.dK (mergeK [] kk)), ?_, rfl, ?_⟩⟩
    · have hz : (mergeK [] kk).length ≤ sizeLine := by
        have h1 := length_mergeK kk []
        have h2 : ps.length = kk.length := by rw [ep, List.length_map]
        rw [List.length_nil] at h1
        rw [sizeLine_eq]; omega
      have he : ∃ q, h'.get? s.heap.objs.size = some q := let ⟨q, _, _, hq, _⟩ := dd'; ⟨q, hq⟩
      exact d_write I2 (by rw [e]; exact True.intro) hs he (dk_new hz hd (rkk.merge .nil) dd')
    · obtain ⟨j1, F2, j2, j3, j4⟩ := puts_both (kvs := []) (ps := []) (F := []) keyOf_inj rfl .nil ek (repL_eq rvl (vals_flat ep)) List.nodup_nil nd fun _ _ z => nomatch z
      have np2 : s.heap.objs.size ∉ F2 := fun z => by
        rcases j4 _ z with w | w
        · cases w
        · exact np w
      refine q2 (.dK (mergeK [] kk)) (s.heap.objs.size :: F2) (.dct (ps := aPuts [] kk) (by rw [upd_same, mergeK_aPuts (kvs := []) List.nodup_nil]) (aPuts_nodup List.nodup_nil) j1 (j2.upd e trivial np2)) (List.nodup_cons.mpr ⟨np2, j3⟩) fun a ha => ?_
      rcases List.mem_cons.mp ha with w | w
      · exact .inl w
      · rcases j4 a w with w | w
        · cases w
        · exact .inr w
  | true =>
    have hpl := pairTrees_length keys values X.env pos hall hl
    rw [arm_eval_Dict, zip_pairTrees keys values X.env pos hall hl, dictDisplay_pairs (pairTrees keys values X.env pos) (fun he => by
      rw [he] at hpl
      exact h0 (List.length_eq_zero_iff.mp hpl.symm)) (by omega)]
    refine wpAny_bind (wpAny_standAt (wpAny_bind (wpAny_subDictH (knd := nestedKind X.prog X.w) (show X.A.units + 8 < cLine by omega) (by rw [hpl]; exact h15) (thn (h.run pins _ σ _ _ I1 (q _ hn)) fun ws s2 ⟨ps, H2, I2, rel, e, l15, kvs, F, rk, rvl, nd, np, hb, q2⟩ => ?_))))
    obtain ⟨es, e1, e2, e3, e4⟩ := keys_nest I2 hb rk rel
    obtain ⟨hs0, hz0, dd⟩ := ndct_at (ys := []) (kvs := []) I2 e rfl (fun _ h => nomatch h) .nil
    refine ⟨es.map unV, e3, dd, fun h' tk dd' hs => wpAny_pure ⟨.ref s.heap.objs.size, upd H2 s.heap.objs.size (ndct X.prog X.w s.heap.objs.size ((ePuts [] es).map unV)), ?_, rfl, ?_⟩⟩
    · have e5 := ePuts_unV (es := es) (ys := []) List.nodup_nil
      rw [← show (ePuts [] es).map unV = storedAllH [] (es.map unV) from e5] at dd'
      have hz : (ePuts [] es).length ≤ sizeLine := by
        have h1 := congrArg List.length (ePuts_vals (es := es) (ys := []))
        have h2 := aPuts_length (more := es.map fun y => (y.1, y.2.2.2)) (kvs := ([] : List Entry).map fun y => (y.1, y.2.2.2))
        have h3 : ps.length = es.length := by rw [e2, List.length_map]
        rw [List.length_map] at h1
        rw [List.length_map, List.length_map, List.length_nil] at h2
        rw [sizeLine_eq]
        omega
      have he : ∃ q, h'.get? s.heap.objs.size = some q := let ⟨q, _, _, hq, _⟩ := dd'; ⟨q, hq⟩
      exact d_write I2 (by rw [e]; exact True.intro) hs he (ndct_ok hs0 hz (ePuts_nodup List.nodup_nil) dd')
    · have rvl' : RepL (gd X) H2 (kvs.map (·.2)) ((es.map fun y => (y.1, y.2.2.2)).map (·.2)) F := repL_eq rvl (by rw [e2, List.map_map, List.map_map]; rfl)
      have ek : kvs.map (fun q => nkey q.1) = (es.map fun y => (y.1, y.2.2.2)).map (fun q => some q.1) := by
        rw [e1, List.map_map]
        rfl
      have rk' : RepL (gd X) H2 (kvs.map (·.1)) (es.map fun y => V.ref y.2.1) [] := repL_eq rk (by rw [e2, List.map_map]; rfl)
      obtain ⟨j1, F2, j2, j3, j4⟩ := puts_both (kvs := []) (ps := []) (F := []) nkey_inj rfl .nil ek rvl' List.nodup_nil nd fun _ _ z => nomatch z
      have np2 : s.heap.objs.size ∉ F2 := fun z => by
        rcases j4 _ z with w | w
        · cases w
        · exact np w
      have ev := ePuts_vals (es := es) (ys := [])
      have k1 : (aPuts [] kvs).map (fun q => nkey q.1) = (ePuts [] es).map (fun y => some y.1) := by
        rw [j1, ← show (ePuts [] es).map (fun y => (y.1, y.2.2.2)) = aPuts [] (es.map fun y => (y.1, y.2.2.2)) from ev, List.map_map]
        rfl
      have k2 := j2.upd (u := ndct X.prog X.w s.heap.objs.size ((ePuts [] es).map unV)) e trivial np2
      rw [← show (ePuts [] es).map (fun y => (y.1, y.2.2.2)) = aPuts [] (es.map fun y => (y.1, y.2.2.2)) from ev, List.map_map] at k2
      refine q2 (ndct X.prog X.w s.heap.objs.size ((ePuts [] es).map unV)) (s.heap.objs.size :: F2) (.dcn (ys := ePuts [] es) upd_same (ePuts_nodup List.nodup_nil) k1 (ePuts_mem (P := fun y => y.1.depth ≤ 8 ∧ RelV y.2.2.2 y.2.2.1) (fun y y' h1 h2 hp => by
        obtain ⟨a1, a2, a3, a4⟩ := y
        obtain ⟨b1, b2, b3, b4⟩ := y'
        cases h1
        cases h2
        exact hp) (fun _ h => nomatch h) e4) ((ePuts_keyrep (kvs := []) (ys := []) rfl .nil e1 rk').upd e trivial fun z => nomatch z) k2) (List.nodup_cons.mpr ⟨np2, j3⟩) fun a ha => ?_
      rcases List.mem_cons.mp ha with w | w
      · exact .inl w
      · rcases j4 a w with w | w
        · cases w
        · exact .inr w
end
section
variable {ι : Type} {G : Gd} {Xs : ι → Cx} {M T S : List Nat} {o : Bool} {pos : Pos} {np : Nat}
theorem ev_disp (n : Bool) {keys : List (Option Expr)} {vals : List Expr} {g : DSt → Option (List (D × D) × DSt)} (ov : Ov G Xs) (hu : Hu Xs) (h : EK G Xs M T pos keys vals g) (hall : keys.all (·.isSome) = true := by rfl) (hl : keys.length = vals.length := by rfl) (h0 : keys ≠ [] := by simp)
    (h15 : keys.length ≤ 15 := by decide) : EV G Xs M T [] true (.Dict keys vals pos) (gDisp n g) := by
  obtain ⟨trs, p, k⟩ := h
  refine ⟨tDispV G n trs, fun j => by have := pe_dispV (n := n) (hu j) (p j) hall hl h0 h15; rw [ov j] at this; exact this, fun C Fs σ H st d st' Q hM r hg q => ?_⟩
  unfold gDisp at hg
  obtain ⟨⟨kvs, s1⟩, e1, hg⟩ := Option.bind_eq_some_iff.mp hg
  dsimp only at hg
  split at hg
  · rename_i hb
    cases hg
    intro p hp
    have sm : Same H (upd H p (emptyO G n p)) := same_upd hp
    refine k C Fs σ _ st kvs _ _ hM (r.same sm) e1 fun ps H2 F Fs2 l2 r2 rk rv ef rs => ?_
    have pF : ∀ i, p ∉ Fs i := fun i z => r.dom z hp
    have hp1 : (upd H p (emptyO G n p)) p ≠ none := by rw [upd_same]; exact fun z => nomatch z
    have h2p : H2 p = some (emptyO G n p) := ef.off p _ upd_same fun ⟨i, _, z⟩ => pF i z
    have pF2 : ∀ i, p ∉ Fs2 i := fun i z => by
      rcases ef.grow i p z with w | w
      · exact pF i w
      · exact hp1 w
    have nF : p ∉ F := fun z => hp1 (rs.nw rfl p z)
    have hpr : C.Pr p = none := by
      cases e : C.Pr p with
      | none => rfl
      | some u =>
        rw [r.pr p u e] at hp
        cases hp
    refine ⟨h2p, ?_, kvs, F, rk, rv, rs.nd rfl, nF, hb, fun u F' rd nd sub => ?_⟩
    · have := rk.length
      rw [List.length_map, List.length_map] at this
      omega
    have r3 : SR G C Fs2 σ (upd H2 p u) st' := r2.upd_apart h2p emptyO_cell pF2 hpr
    have nw : ∀ a ∈ F', H a = none := fun a ha => by
      rcases sub a ha with rfl | w
      · exact hp
      · exact sm.free (rs.nw rfl a w)
    have ef3 : Eff T Fs H st Fs2 (upd H2 p u) st' := by
      refine ⟨fun a w e n => ?_, ef.same, fun i a h => ?_, fun a h => sm.free (ef.dom a (upd_dom h))⟩
      · rw [upd_ne fun z => by rw [z, hp] at e; cases e]
        exact ef.off a w (sm a w e) n
      · exact (ef.grow i a h).imp id fun z => sm.free z
    have apF : ∀ i, ∀ a ∈ F', a ∉ Fs2 i := fun i a h z => by
      rcases sub a h with rfl | w
      · exact pF2 i z
      · exact rs.ap rfl i a w z
    exact q _ _ F' Fs2 r3 rd ef3 ⟨fun i _ _ => apF i, fun _ => nd, fun _ => nw, fun _ => apF⟩
  · cases hg
end
end VL

/-! The value layer, part O: stores, dict places. -/
namespace VL
open PySem PySem.Spec L2 D

/-! ### o[k] = v -/
def rSetDct (G : Gd) : V → V → V → Hp → (Hp → Prop) → Prop := fun o i v H Q => ∃ n kvs k d F Fk Fv a, o = .ref a ∧ Rep G H (.dct n kvs) (.ref a) F ∧ F.Nodup ∧ Rep G H k i Fk ∧ keyB n k = true ∧ Rep G H d v Fv ∧ Fv.Nodup ∧ (∀ b ∈ Fv, b ∉ F) ∧ kvs.length < 1000000 ∧
  ∀ H' F', Rep G H' (.dct n (aPut kvs k d)) (.ref a) F' → F'.Nodup → (∀ b ∈ F', b ∈ F ∨ b ∈ Fv) → a ∈ F → Off (fun b => b = a) H H' → (∀ b, H' b = none → H b = none) → Q H'
theorem set_dct {X : Cx} (hu : X.A.units + 80 < cLine) : PSet X (rSetDct (gd X)) := by
  intro pins s σ H o i v ov iv u Q I ro ri rv h
  obtain ⟨n, kvs, k, d, F, Fk, Fv, a, rfl, rd, ndF, rk, hk, rdv, ndv, dj, hl, q⟩ := h
  cases ro
  exact dv_setItem (by omega) I rd ndF rk hk ri rdv ndv dj rv hl fun H' F' s' I' r' nd' sub ia off dom => ⟨H', I', q H' F' r' nd' sub ia off dom⟩
theorem PSet.or {X : Cx} {t t' : TSet} (h : PSet X t) (h' : PSet X t') : PSet X (fun o i v H Q => t o i v H Q ∨ t' o i v H Q) := by
  intro pins s σ H o i v ov iv u Q I ro ri rv q
  rcases q with q | q
  · exact h pins s σ H o i v ov iv u Q I ro ri rv q
  · exact h' pins s σ H o i v ov iv u Q I ro ri rv q
def putAtD : D → D → D → Option D
  | .lst ds, .int k, x => (ixN ds.length k).map fun j => .lst (ds.set j x)
  | .dct n kvs, k, x => if (keyB n k && decide (kvs.length < 1000000)) = true then some (.dct n (aPut kvs k x)) else none
  | _, _, _ => none
def sStore (i : Nat) (gp : DSt → Option (D × (D → D))) (gk ge : DSt → Option (D × DSt)) : DSt → Option Out := fun st => (ge st).bind fun p => (gp p.2).bind fun q => (gk p.2).bind fun r => (putAtD q.1 r.1 p.1).map fun y => .nx (p.2.set i (some (q.2 y)))
section
variable {X : Cx} {G : Gd} {M O T S : List Nat} {o : Bool} {np i : Nat} {a k e : Expr} {pos pos' : Pos} {gp : DSt → Option (D × (D → D))} {gk ge : DSt → Option (D × DSt)}
/-- behind a store of a new thing at a place -/
theorem store_core {C : Act} {Fs Fs1 : Nat → List Addr} {σ : St} {H H1 H2 : Hp} {st s1 : DSt} {d y x : D} {put : D → D} {v w : V} {Fp Fx Fy : List Addr} (hM : C.M = M) (him : i ∈ M) (r0 : SR G C Fs σ H st) (r1 : SR G C Fs1 σ H1 s1) (rs : Res M [] true H Fs1 Fx) (pl : PlaceAt G σ H1 Fs1 i d put v Fp)
    (off : Off (fun b => b ∈ Fp) H1 H2) (dom : ∀ b, H2 b = none → H1 b = none) (ry : Rep G H2 y w Fy) (nd : Fy.Nodup) (e : w = v) (sub : ∀ b ∈ Fy, b ∈ Fp ∨ b ∈ Fx) : ∃ Fs3, SR G C Fs3 σ H2 (s1.set i (some (put y))) := by
  subst e
  have him' : i ∈ C.M := hM ▸ him
  obtain ⟨Fs3, r3, _⟩ := place_core (T := []) hM him r1 pl r1 (Eff.pure (fun _ _ z => z) []) (fun z => nomatch z) off dom ry nd (fun b hb => (sub b hb).imp id fun z => ⟨rs.ap rfl i b z, r0.up b (rs.nw rfl b z), by
    cases q : C.Pr b with
    | none => rfl
    | some u =>
      have := r0.pr b u q
      rw [rs.nw rfl b z] at this
      cases this⟩) fun j ji b hb z => by
    rcases sub b hb with w | w
    · exact r1.dj i him' j ji b (pl.sub b w) z
    · exact rs.ap rfl j b w z
  exact ⟨Fs3, r3⟩
theorem ds_store (ov : Ov G (one X)) (hu : Hu (one X)) (hp : EP G (one X) M a i gp) (hk : EV G (one X) M [] S o k gk) (he : EV G (one X) M T [] true e ge) (him : M.contains i = true := by decide)
    (ha : ∀ v, assign (.Subscript a k pos') X.env v = (do
      let ov ← holding [v] (eval a X.env)
      let iv ← holding [v, ov] (eval k X.env)
      standAt pos'
      holding [v, ov, iv] (setItem ov iv v)
      release [v, ov, iv] []) := by intro _; rfl)
    (hs : swapsWithSole [.Subscript a k pos'] e pos.line X.env = pure false := by rfl) (hw : swappedStores [.Subscript a k pos'] e X.env = pure none := by rfl) (h1 : (assignEach [.Subscript a k pos'] X.env).map (·.2) = [assign (.Subscript a k pos') X.env] := by rfl) : DS X G M O np (.Assign [.Subscript a k pos'] e pos) (sStore i gp gk ge) := by
  obtain ⟨t1, p1, k1⟩ := hp
  obtain ⟨t2, p2, k2⟩ := hk
  obtain ⟨t3, p3, k3⟩ := he
  rw [List.contains_eq_mem, decide_eq_true_eq] at him
  refine ⟨tAsg t3 (gSub t1 t2 fun o i v H Q => rSetL o i v H Q ∨ rSetDct G o i v H Q), ps_asg (p3 ()) (pg_sub (p1 ()) (p2 ()) (PSet.or set_list (by have := set_dct (hu ()); rw [ov ()] at this; exact this)) ha) hs hw h1, fun K C Fs σ H st out hM hO hn r hg q => ?_⟩
  unfold sStore at hg
  obtain ⟨⟨x, s1⟩, e1, hg⟩ := Option.bind_eq_some_iff.mp hg
  obtain ⟨⟨d, put⟩, e2, hg⟩ := Option.bind_eq_some_iff.mp hg
  obtain ⟨⟨kd, s2⟩, e3, hg⟩ := Option.bind_eq_some_iff.mp hg
  obtain ⟨y, e4, hg⟩ := Option.map_eq_some_iff.mp hg
  cases hg
  refine k3 C Fs σ H st x s1 _ hM r e1 fun v H1 Fx Fs1 r1 rx ef1 rs1 => ?_
  refine k1 C Fs1 σ H1 s1 d put _ hM r1 e2 fun w H2 Fp sm2 r2 pl => ?_
  refine k2 C Fs1 σ H2 s1 kd s2 _ hM r2 e3 fun kv H3 Fk Fs3 r3 rk ef3 rs3 => ?_
  obtain ⟨rfl, rfl, sm3⟩ := pure_st (C := C) ef3
  have pl3 := pl.same (fun b h => r2.dom h) sm3
  have rx3 := (rx.same sm2).same sm3
  have apx : ∀ b ∈ Fx, b ∉ Fp := fun b hb z => rs1.ap rfl i b hb (pl.sub b z)
  cases d with
  | lst ds =>
    cases kd with
    | int n =>
      obtain ⟨j, e5, e6⟩ := Option.map_eq_some_iff.mp e4
      subst e6
      obtain ⟨p, vs, F0, rfl, rfl, hp, rl⟩ := pl3.rep.lstv
      obtain ⟨np, n0⟩ := List.nodup_cons.mp pl3.nd
      cases rk.intv
      refine .inl ⟨p, vs, n, j, rfl, rfl, hp, by rw [← rl.length]; exact e5, ?_⟩
      obtain ⟨F', rl', nd', sub'⟩ := rl.set (n := j) n0 rx3 (rs1.nd rfl) fun b hb z => apx b hb (List.mem_cons_of_mem _ z)
      have np' : p ∉ F' := fun z => by
        rcases sub' p z with w | w
        · exact np w
        · exact apx p w List.mem_cons_self
      obtain ⟨Fs4, r4⟩ := store_core (x := x) hM him r r3 rs1 pl3 (H2 := upd H3 p (.lst (vs.set j v))) (fun b u e n => by rw [upd_ne fun z => n (by rw [z]; exact List.mem_cons_self)]; exact e) (fun b h => upd_dom h) (.lst upd_same (rl'.upd hp trivial np')) (List.nodup_cons.mpr ⟨np', nd'⟩) rfl fun b hb => by
        rcases List.mem_cons.mp hb with rfl | hb
        · exact .inl List.mem_cons_self
        · exact (sub' b hb).imp (List.mem_cons_of_mem _) id
      exact q σ _ Fs4 r4
    | _ => cases e4
  | dct n kvs =>
    have e4' : (if (keyB n kd && decide (kvs.length < 1000000)) = true then some (D.dct n (aPut kvs kd x)) else none) = some y := by
      cases kd <;> exact e4
    split at e4'
    · rename_i hc
      rw [Bool.and_eq_true, decide_eq_true_eq] at hc
      cases e4'
      obtain ⟨p, F0, rfl, rfl⟩ := pl3.rep.dctv
      refine .inr ⟨n, kvs, kd, x, p :: F0, Fk, Fx, p, rfl, pl3.rep, pl3.nd, rk, hc.1, rx3, rs1.nd rfl, apx, hc.2, fun H' F' r' nd' sub' ip off' dom' => ?_⟩
      obtain ⟨Fs4, r4⟩ := store_core (x := x) hM him r r3 rs1 pl3 (H2 := H') (off'.mono fun b e => by rw [e]; exact List.mem_cons_self) dom' r' nd' rfl sub'
      exact q σ _ Fs4 r4
    · cases e4'
  | _ => cases e4
end

/-! ### a dict's value changed in place -/
theorem aGet_idx {κ β : Type} [DecidableEq κ] {k : κ} {d : β} : ∀ {kvs : List (κ × β)}, aGet kvs k = some d → ∃ n, (kvs.map (·.2))[n]? = some d ∧ (kvs.map (·.1))[n]? = some k ∧ (∀ m, m < n → (kvs.map (·.1))[m]? ≠ some k) ∧ ∀ d', (aPut kvs k d').map (·.2) = (kvs.map (·.2)).set n d' ∧ (aPut kvs k d').map (·.1) = kvs.map (·.1)
  | [], h => by simp [aGet] at h
  | (a, x) :: kvs, h => by
    unfold aGet at h
    by_cases e : a = k
    · rw [if_pos e] at h
      cases h
      refine ⟨0, rfl, by simp [e], fun m hm => absurd hm (Nat.not_lt_zero _), fun d' => ?_⟩
      unfold aPut
      rw [if_pos e]
      exact ⟨rfl, rfl⟩
    · rw [if_neg e] at h
      obtain ⟨n, h1, h2, h3, h4⟩ := aGet_idx h
      refine ⟨n + 1, by simpa using h1, by simpa using h2, fun m hm => ?_, fun d' => ?_⟩
      · cases m with
        | zero =>
          intro z
          simp at z
          exact e z
        | succ m =>
          have := h3 m (by omega)
          simpa using this
      · unfold aPut
        rw [if_neg e]
        simp only [List.map_cons, List.set_cons_succ]
        rw [(h4 d').1, (h4 d').2]
        exact ⟨rfl, rfl⟩
theorem aGet_at {κ β : Type} [DecidableEq κ] {k : κ} {v : β} : ∀ {n : Nat} {ps : List (κ × β)}, (ps.map (·.1))[n]? = some k → (∀ m, m < n → (ps.map (·.1))[m]? ≠ some k) → (ps.map (·.2))[n]? = some v → aGet ps k = some v
  | _, [], h, _, _ => by simp at h
  | 0, (a, x) :: ps, h, _, h2 => by
    simp at h h2
    unfold aGet
    rw [if_pos h, h2]
  | n + 1, (a, x) :: ps, h, h1, h2 => by
    unfold aGet
    have e : ¬ a = k := fun z => h1 0 (by omega) (by simp [z])
    rw [if_neg e]
    exact aGet_at (n := n) (by simpa using h) (fun m hm => by simpa using h1 (m + 1) (by omega)) (by simpa using h2)
theorem keys_at {κ : Type} {f : D → Option κ} (inj : ∀ {a b k}, f a = some k → f b = some k → a = b) {k : D} {k' : κ} (hk : f k = some k') {kvs : List (D × D)} {ks : List κ} (h : kvs.map (fun q => f q.1) = ks.map some) {n : Nat} : (kvs.map (·.1))[n]? = some k ↔ ks[n]? = some k' := by
  have e : ((kvs.map (·.1))[n]?).map f = (ks[n]?).map some := by
    rw [← List.getElem?_map, ← List.getElem?_map, List.map_map]
    exact congrArg (·[n]?) h
  constructor
  · intro z
    rw [z] at e
    cases q : ks[n]? with
    | none =>
      rw [q] at e
      cases e
    | some y =>
      rw [q] at e
      have e' : f k = some y := Option.some.inj e
      rw [hk] at e'
      exact e'.symm
  · intro z
    rw [z] at e
    cases q : (kvs.map (·.1))[n]? with
    | none =>
      rw [q] at e
      cases e
    | some y =>
      rw [q] at e
      have e' : f y = some k' := Option.some.inj e
      rw [inj e' hk]

/-- what the dict holds at the key, as it stands in the heap -/
def rIxDctV (G : Gd) : R2 := fun x y H Q => (∃ (a : Addr) (ps : List (Key × V)) (k' : Key) (v : V), x = .ref a ∧ H a = some (.dK ps) ∧ y = kV k' ∧ aGet ps k' = some v ∧ Q v H) ∨
  ∃ (a : Addr) (kvs : List (D × D)) (ys : List Entry) (k : D) (nk : NestedKey) (v : V) (Fk : List Addr), x = .ref a ∧ H a = some (ndct G.P G.w a (ys.map unV)) ∧ kvs.map (fun q => nkey q.1) = ys.map (fun y => some y.1) ∧ (∀ y ∈ ys, y.1.depth ≤ 8 ∧ RelV y.2.2.2 y.2.2.1) ∧ RepL G H (kvs.map (·.1)) (ys.map fun y => V.ref y.2.1) [] ∧
    Rep G H k y Fk ∧ keyB true k = true ∧ nkey k = some nk ∧ aGet (ys.map fun y => (y.1, y.2.2.2)) nk = some v ∧ Q v H
theorem ixr_dctV {X : Cx} (hu : X.A.units + 80 < cLine) : IxR X (rIxDctV (gd X)) := by
  intro value slice pins s σ H x y v u Q I rx ry h hs
  rcases h with ⟨a, ps, k', w, rfl, ha, rfl, e, q⟩ | ⟨a, kvs, ys, k, nk, w, Fk, rfl, ha, hkk, dp, rk', rk, hk, hn, e, q⟩
  · cases rx
    obtain ⟨_, _, vs, _, dd⟩ := dk_rd I.hok (.inl ha)
    refine PyProof.Rows.tail_any dd.typeIs PySem.F.slot_dict_getitem.lookup (d_getItem (v := w) (by omega) I (by rw [← e, ← valV_aGet]; exact DGet.k ha) ry fun w' s' I' rw' => ⟨w, H, I', rw', q⟩) hs
  · cases rx
    obtain ⟨nk', b, h1, rfl, rfl, h4⟩ := key_tup I rk ry hk
    have : nk' = nk := Option.some.inj (h1.symm.trans hn)
    subst this
    obtain ⟨hs0, hl, dd⟩ := ndct_at I ha hkk dp rk'
    obtain ⟨p, hp, rv⟩ := (atKey_get (fun y hy => (dp y hy).2)).1 w e
    exact PyProof.Rows.tail_any dd.typeIs PySem.F.slot_dict_getitem.lookup (wpAny_getItem_heap (room_nested (by omega)) h4 dd hp ⟨w, H, I.tok _, rv, q⟩) hs
/-- a dict's value as a place -/
theorem PlaceAt.key {G : Gd} {i : Nat} {σ : St} {H : Hp} {Fs : Nat → List Addr} {n : Bool} {kvs : List (D × D)} {put : D → D} {v : V} {Fp : List Addr} (p : PlaceAt G σ H Fs i (.dct n kvs) put v Fp) {k d : D} {y : V} {Fk : List Addr} (rk : Rep G H k y Fk) (hk : keyB n k = true) (e : aGet kvs k = some d) :
    ∃ w Fn, PlaceAt G σ H Fs i d (fun d' => put (.dct n (aPut kvs k d'))) w Fn ∧ ∀ Q : VK, Q w H → rIxDctV G v y H Q := by
  obtain ⟨m, e1, e2, e3, e4⟩ := aGet_idx e
  -- the zipper of the values within the dict's own cell
  have main : ∀ (a : Addr) (F0 : List Addr) (vs : List V), v = .ref a → Fp = a :: F0 → (∃ o, H a = some o ∧ Cell o) → RepL G H (kvs.map (·.2)) vs F0 → (∀ (H2 : Hp) (d' : D) (F' : List Addr), Off (fun b => b ∈ F0) H H2 ∨ H2 a = H a → H2 a = H a → (∀ (ds : List D) (us : List V), RepL G H ds us [] → RepL G H2 ds us []) → RepL G H2 ((kvs.map (·.2)).set m d') vs F' → Rep G H2 (.dct n (aPut kvs k d')) (.ref a) (a :: F')) →
      ∃ w Fn, vs[m]? = some w ∧ PlaceAt G σ H Fs i d (fun d' => put (.dct n (aPut kvs k d'))) w Fn := by
    rintro a F0 vs rfl rfl hcell rl mk
    obtain ⟨n1, n2⟩ := List.nodup_cons.mp p.nd
    obtain ⟨w, Fn, hw, rn, sub, ndn, zip⟩ := rl.part n2 e1
    refine ⟨w, Fn, hw, rn, fun b hb => p.sub b (List.mem_cons_of_mem _ (sub b hb)), ndn, fun W H2 d' Fn' hW off subW r' nd' new => ?_⟩
    have na : ¬ W a := fun z => n1 (sub a (subW a (p.sub a List.mem_cons_self) z))
    obtain ⟨F', rl', nd2, s1, s2⟩ := zip W H2 d' Fn' hW off (fun b hb w => subW b (p.sub b (List.mem_cons_of_mem _ hb)) w) r' nd' fun b hb => (new b hb).imp id fun z w => z (p.sub b (List.mem_cons_of_mem _ w))
    obtain ⟨o, ho, hc⟩ := hcell
    have ha2 : H2 a = H a := by rw [ho]; exact off a o ho na
    have ha : a ∉ F' := fun z => by
      rcases s1 a z with q | q
      · rcases new a q with u | u
        · exact n1 (sub a u)
        · exact u (p.sub a List.mem_cons_self)
      · exact n1 q
    have rd := mk H2 d' F' (.inr ha2) ha2 (fun ds us r => r.off hW off fun _ h => nomatch h) rl'
    obtain ⟨v0, F2, h0, r2, nd3, s3⟩ := p.zip W H2 (.dct n (aPut kvs k d')) (a :: F') hW off (fun b hb w => List.mem_cons_of_mem _ (sub b (subW b hb w))) rd (List.nodup_cons.mpr ⟨ha, nd2⟩) (fun b hb => by
      rcases List.mem_cons.mp hb with rfl | hb
      · exact .inl List.mem_cons_self
      · rcases s1 b hb with q | q
        · rcases new b q with u | u
          · exact .inl (List.mem_cons_of_mem _ (sub b u))
          · exact .inr u
        · exact .inl (List.mem_cons_of_mem _ q))
    refine ⟨v0, F2, h0, r2, nd3, fun b hb => ?_⟩
    rcases s3 b hb with q | q
    · rcases List.mem_cons.mp q with rfl | q
      · exact .inr (p.sub _ List.mem_cons_self)
      · rcases s1 b q with u | u
        · exact .inl u
        · exact .inr (p.sub b (List.mem_cons_of_mem _ u))
    · exact .inr q
  have hkeys : ∀ {κ : Type} (f : D → Option κ) (ks : List (Option κ)) (d' : D), kvs.map (fun q => f q.1) = ks → (aPut kvs k d').map (fun q => f q.1) = ks := fun f ks d' h => by
    have z : (aPut kvs k d').map (fun q => f q.1) = ((aPut kvs k d').map (·.1)).map f := by rw [List.map_map]; rfl
    rw [z, (e4 d').2, List.map_map, ← h]
    rfl
  have prep := p.rep
  generalize hv : v = v' at prep
  generalize hF : Fp = F' at prep
  generalize hd : D.dct n kvs = dd at prep
  cases prep with
  | dct ha nd hkk rl =>
    cases hd
    obtain ⟨k', hk'⟩ := keyB_key hk
    rename_i ps F0
    obtain ⟨w, Fn, hw, pl⟩ := main _ _ _ hv hF ⟨_, ha, trivial⟩ rl fun H2 d' F' _ ha2 _ rl' => .dct (ps := ps) (by rw [ha2]; exact ha) nd (hkeys keyOf _ d' hkk) (by rw [(e4 d').1]; exact rl')
    refine ⟨w, Fn, pl, fun Q q => .inl ⟨_, ps, k', w, rfl, ha, rk.keyv hk', ?_, q⟩⟩
    have hks : kvs.map (fun q => keyOf q.1) = (ps.map (·.1)).map some := by
      rw [hkk, List.map_map]
      rfl
    exact aGet_at (n := m) ((keys_at keyOf_inj hk' hks).mp e2) (fun j hj z => e3 j hj ((keys_at keyOf_inj hk' hks).mpr z)) hw
  | dcn ha nd hkk dp rk' rl =>
    cases hd
    have hk2 := hk
    obtain ⟨nk, hn⟩ : ∃ nk, nkey k = some nk := by
      unfold keyB at hk2
      rw [if_pos rfl] at hk2
      split at hk2
      · split at hk2
        · rename_i nk hn
          exact ⟨nk, hn⟩
        · cases hk2
      · cases hk2
    rename_i ys F0
    obtain ⟨w, Fn, hw, pl⟩ := main _ _ _ hv hF ⟨_, ha, trivial⟩ rl fun H2 d' F' _ ha2 keep rl' => .dcn (ys := ys) (by rw [ha2]; exact ha) nd (hkeys nkey _ d' hkk) dp (keep _ _ (by rw [(e4 d').2]; exact rk')) (by rw [(e4 d').1]; exact rl')
    refine ⟨w, Fn, pl, fun Q q => .inr ⟨_, kvs, ys, k, nk, w, Fk, rfl, ha, hkk, dp, rk', rk, hk, hn, ?_, q⟩⟩
    have hks : kvs.map (fun q => nkey q.1) = ((ys.map fun y => (y.1, y.2.2.2)).map (·.1)).map some := by
      rw [hkk, List.map_map, List.map_map]
      rfl
    exact aGet_at (n := m) ((keys_at nkey_inj hn hks).mp e2) (fun j hj z => e3 j hj ((keys_at nkey_inj hn hks).mpr z)) (by rw [List.map_map]; exact hw)
  | _ => cases hd
def pKey (gp : DSt → Option (D × (D → D))) (ge : DSt → Option (D × DSt)) : DSt → Option (D × (D → D)) := fun st => (gp st).bind fun p => (ge st).bind fun q => match p.1 with
  | .dct n kvs => if keyB n q.1 = true then (aGet kvs q.1).map fun y => (y, fun d' => p.2 (.dct n (aPut kvs q.1 d'))) else none
  | _ => none
section
variable {ι : Type} {G : Gd} {Xs : ι → Cx} {M S : List Nat} {o : Bool} {a b : Expr} {pos : Pos} {i : Nat} {gp : DSt → Option (D × (D → D))} {ge : DSt → Option (D × DSt)}
theorem ep_key (ov : Ov G Xs) (hu : Hu Xs) (hp : EP G Xs M a i gp) (hb : EV G Xs M [] S o b ge) (hs : PlainIx b := by exact fun _ _ => rfl) : EP G Xs M (.Subscript a b pos) i (pKey gp ge) := by
  obtain ⟨t1, p1, k1⟩ := hp
  obtain ⟨t2, p2, k2⟩ := hb
  refine ⟨tOp (rIxDctV G) t1 t2, fun j => pe_ix (by have := ixr_dctV (hu j); rw [ov j] at this; exact this) (p1 j) (p2 j) hs, fun C Fs σ H st d put Q hM r hg q => ?_⟩
  unfold pKey at hg
  obtain ⟨⟨d1, put1⟩, e1, hg⟩ := Option.bind_eq_some_iff.mp hg
  obtain ⟨⟨x, s1⟩, e2, hg⟩ := Option.bind_eq_some_iff.mp hg
  cases d1 with
  | dct n kvs =>
    have hg' : (if keyB n x = true then (aGet kvs x).map fun y => (y, fun d' => put1 (.dct n (aPut kvs x d'))) else none) = some (d, put) := hg
    split at hg'
    · rename_i hk
      obtain ⟨y, e4, hg'⟩ := Option.map_eq_some_iff.mp hg'
      cases hg'
      refine k1 C Fs σ H st _ put1 _ hM r e1 fun v1 H1 Fp sm1 r1 pl => ?_
      refine k2 C Fs σ H1 st _ s1 _ hM r1 e2 fun v2 H2 F2 Fs2 r2 rd2 ef2 _ => ?_
      obtain ⟨rfl, rfl, sm2⟩ := pure_st (C := C) ef2
      obtain ⟨w, Fn, pl2, k⟩ := (pl.same (fun a h => r1.dom h) sm2).key rd2 hk e4
      exact k _ (q w H2 Fn (sm1.trans sm2) r2 pl2)
    · cases hg'
  | _ => cases hg
end
end VL

/-! The value layer, part P: operations of whole numbers, equality, membership, joining. -/
namespace VL
open PySem PySem.Spec L2 D
section
variable {ι : Type} {G : Gd} {Xs : ι → Cx}
theorem fresh_bl {H : Hp} {b : Bool} {Q : VK} (fr : Fresh G H (.bl b) Q) : Q (.bl b) H := fr _ H [] (fun _ _ z => z) (.bl b) List.nodup_nil fun _ h => nomatch h
theorem fresh_int {H : Hp} {i : Int} {Q : VK} (fr : Fresh G H (.int i) Q) : Q (.int i) H := fr _ H [] (fun _ _ z => z) (.int i) List.nodup_nil fun _ h => nomatch h
theorem fresh_str {H : Hp} {x : Str} {Q : VK} (fr : Fresh G H (.str x) Q) : Q (.str x) H := fr _ H [] (fun _ _ z => z) (.str x) List.nodup_nil fun _ h => nomatch h
/-- a part without cells is as good as a new thing -/
theorem fresh_old {H : Hp} {d : D} {v : V} {F : List Addr} {Q : VK} (fr : Fresh G H d Q) (r : Rep G H d v F) (hi : d.imm = true) : Q v H := by
  have := r.imm hi
  subst this
  exact fr v H [] (fun _ _ z => z) r List.nodup_nil fun _ h => nomatch h
theorem fresh_tup {H : Hp} {ds : List D} {vs : List V} {F : List Addr} {Q : VK} (fr : Fresh G H (.tup ds) Q) (r : RepL G H ds vs F) (hi : immL ds = true) : ∀ p, H p = none → Q (.ref p) (upd H p (.tup vs)) := fun p hp => by
  have := r.imm hi
  subst this
  have sm : Same H (upd H p (.tup vs)) := same_upd hp
  exact fr (.ref p) _ [] sm (.tup (SqT.of upd_same) (r.same sm)) List.nodup_nil fun _ h => nomatch h
theorem fresh_lst {H : Hp} {ds : List D} {vs : List V} {F : List Addr} {Q : VK} (fr : Fresh G H (.lst ds) Q) (r : RepL G H ds vs F) (hi : immL ds = true) : ∀ p, H p = none → Q (.ref p) (upd H p (.lst vs)) := fun p hp => by
  have := r.imm hi
  subst this
  have sm : Same H (upd H p (.lst vs)) := same_upd hp
  exact fr (.ref p) _ [p] sm (.lst upd_same (r.same sm)) (by simp) fun a h => by
    cases List.mem_singleton.mp h
    exact hp

/-! ### whole numbers -/
def fII (f : Int → Int → Int) : D → D → Option D
  | .int i, .int j => some (.int (f i j))
  | _, _ => none
def fIB (f : Int → Int → Bool) : D → D → Option D
  | .int i, .int j => some (.bl (f i j))
  | _, _ => none
def fIIc (c : Int → Int → Bool) (f : Int → Int → Int) : D → D → Option D
  | .int i, .int j => if c i j = true then some (.int (f i j)) else none
  | _, _ => none
theorem op_ii {F : Value → Value → Sem Value} {f : Int → Int → Int} (h : ∀ j, OpR (Xs j) F (rI0 fun i j => .int (f i j))) : OP2 G Xs F (fII f) := by
  refine ⟨_, h, fun H d e z v u F F' Q rd re hz fr => ?_⟩
  cases d with
  | int i =>
    cases e with
    | int j =>
      cases hz
      cases rd
      cases re
      exact ⟨i, j, rfl, rfl, fresh_int fr⟩
    | _ => cases hz
  | _ => cases hz
theorem op_ib {F : Value → Value → Sem Value} {f : Int → Int → Bool} (h : ∀ j, OpR (Xs j) F (rI0 fun i j => .bl (f i j))) : OP2 G Xs F (fIB f) := by
  refine ⟨_, h, fun H d e z v u F F' Q rd re hz fr => ?_⟩
  cases d with
  | int i =>
    cases e with
    | int j =>
      cases hz
      cases rd
      cases re
      exact ⟨i, j, rfl, rfl, fresh_bl fr⟩
    | _ => cases hz
  | _ => cases hz
theorem op_iic {F : Value → Value → Sem Value} {c : Int → Int → Bool} {f : Int → Int → Int} {C : Int → Int → Prop} (h : ∀ j, OpR (Xs j) F (rI C fun i j => .int (f i j))) (hc : ∀ i j, c i j = true → C i j) : OP2 G Xs F (fIIc c f) := by
  refine ⟨_, h, fun H d e z v u F F' Q rd re hz fr => ?_⟩
  cases d with
  | int i =>
    cases e with
    | int j =>
      have hz' : (if c i j = true then some (D.int (f i j)) else none) = some z := hz
      split at hz'
      · rename_i hcc
        cases hz'
        cases rd
        cases re
        exact ⟨i, j, rfl, rfl, hc i j hcc, fresh_int fr⟩
      · cases hz'
    | _ => cases hz
  | _ => cases hz
def mulB (i j : Int) : Bool := decide (i.natAbs < 2 ^ 64) || (decide (j.natAbs < 2 ^ 64) || decide (i.natAbs.log2 + j.natAbs.log2 < 1000000))
def fAdd : D → D → Option D := fII fun i j => i + j
def fSub : D → D → Option D := fII fun i j => i - j
def fMul : D → D → Option D := fIIc mulB fun i j => i * j
def fDiv : D → D → Option D := fIIc (fun _ j => decide (0 < j) && decide (j.natAbs.log2 < 9000)) fun i j => i / j
def fMod : D → D → Option D := fIIc (fun _ j => decide (0 < j)) fun i j => i % j
def fPow : D → D → Option D := fIIc (fun i j => decide (0 ≤ j) && (decide (j ≤ 1000000) && decide (i.natAbs < 2 ^ 64))) fun i j => i ^ j.toNat
def fShl : D → D → Option D := fIIc (fun i j => decide (0 ≤ j) && (decide (j ≤ 1000000) && decide (i.natAbs < 2 ^ 64))) fun i j => i * 2 ^ j.toNat
def fShr : D → D → Option D := fIIc (fun _ j => decide (0 ≤ j)) fun i j => i / 2 ^ j.toNat
def fBand : D → D → Option D := fII Builtin.bitAnd
def fBor : D → D → Option D := fII Builtin.bitOr
def fXor : D → D → Option D := fII Builtin.bitXor
theorem op_Add : OP2 G Xs (binaryOp .Add) fAdd := op_ii fun _ => op_add
theorem op_Sub : OP2 G Xs (binaryOp .Sub) fSub := op_ii fun _ => op_sub
theorem opr_mul {X : Cx} : OpR X (binaryOp .Mult) (rI (fun i j => mulB i j = true) fun i j => .int (i * j)) := opI fun i j _ _ _ _ _ hc q => by
  refine PyProof.Rows.mul_int q ?_
  simp only [mulB, Bool.or_eq_true, decide_eq_true_eq] at hc
  rcases hc with h | h | h
  · exact CMul.ok (.inl ⟨by omega, by omega⟩)
  · exact CMul.ok (.inr ⟨by omega, by omega⟩)
  · exact CMulW.ok h
theorem op_Mul : OP2 G Xs (binaryOp .Mult) fMul := op_iic (fun _ => opr_mul) fun _ _ h => h
theorem op_Div : OP2 G Xs (binaryOp .FloorDiv) fDiv := op_iic (fun _ => op_fdivW) fun i j h => by
  simp only [Bool.and_eq_true, decide_eq_true_eq] at h
  exact h
theorem op_Mod : OP2 G Xs (binaryOp .Mod) fMod := op_iic (fun _ => op_mod) fun i j h => of_decide_eq_true h
theorem op_Pow : OP2 G Xs (binaryOp .Pow) fPow := op_iic (fun _ => op_pow) fun i j h => by
  simp only [Bool.and_eq_true, decide_eq_true_eq] at h
  exact ⟨h.1, h.2.1, h.2.2⟩
theorem op_Shl : OP2 G Xs (binaryOp .LShift) fShl := op_iic (fun _ => op_shl) fun i j h => by
  simp only [Bool.and_eq_true, decide_eq_true_eq] at h
  exact ⟨h.1, h.2.1, h.2.2⟩
theorem op_Shr : OP2 G Xs (binaryOp .RShift) fShr := op_iic (fun _ => op_shr) fun i j h => of_decide_eq_true h
theorem op_Band : OP2 G Xs (binaryOp .BitAnd) fBand := op_ii fun _ => op_and
theorem op_Bor : OP2 G Xs (binaryOp .BitOr) fBor := op_ii fun _ => op_or
theorem op_Xor : OP2 G Xs (binaryOp .BitXor) fXor := op_ii fun _ => op_xor
def fLt : D → D → Option D := fIB fun i j => decide (i < j)
def fLe : D → D → Option D := fIB fun i j => decide (i ≤ j)
def fGt : D → D → Option D := fIB fun i j => decide (j < i)
def fGe : D → D → Option D := fIB fun i j => decide (j ≤ i)
theorem op_Lt : OP2 G Xs (compareOp .Lt) fLt := op_ib fun _ => op_lt
theorem op_Le : OP2 G Xs (compareOp .LtE) fLe := op_ib fun _ => op_le
theorem op_Gt : OP2 G Xs (compareOp .Gt) fGt := op_ib fun _ => op_gt
theorem op_Ge : OP2 G Xs (compareOp .GtE) fGe := op_ib fun _ => op_ge
def fNeg : D → Option D
  | .int i => some (.int (-i))
  | _ => none
theorem op_Neg : OP1 G Xs (unaryOp .USub) fNeg := by
  refine ⟨_, fun _ => un_neg, fun H d z v F Q rd hz fr => ?_⟩
  cases d with
  | int i =>
    cases hz
    cases rd
    exact ⟨i, rfl, fresh_int fr⟩
  | _ => cases hz

/-! ### plain data as the kit's -/
mutual
def toP : D → Option PyData
  | .non => some .none
  | .bl b => some (.bool b)
  | .int i => some (.int i)
  | .str x => some (.str x)
  | .tup ds => match toPs ds with
    | some ps => some (.tuple ps)
    | none => none
  | .lst ds => match toPs ds with
    | some ps => some (.list ps)
    | none => none
  | .frl ds => match toPs ds with
    | some ps => some (.list ps)
    | none => none
  | _ => none
def toPs : List D → Option (List PyData)
  | [] => some []
  | d :: ds => match toP d, toPs ds with
    | some p, some ps => some (p :: ps)
    | _, _ => none
end
mutual
theorem Rep.dp {H : Hp} : ∀ {d : D} {v : V} {F : List Addr} {p : PyData}, Rep G H d v F → toP d = some p → Dp G.K H v p
  | _, _, _, p, .non, h => by
    simp [toP] at h
    subst h
    exact .non
  | _, _, _, p, .bl b, h => by
    simp [toP] at h
    subst h
    exact .bl b
  | _, _, _, p, .int i, h => by
    simp [toP] at h
    subst h
    exact .int i
  | _, _, _, p, .str x, h => by
    simp [toP] at h
    subst h
    exact .str x
  | _, _, _, p, .tup hs r, h => by
    rw [toP] at h
    split at h
    · rename_i ps e
      cases h
      exact .tup hs (RepL.dp r e)
    · cases h
  | _, _, _, p, .lst hs r, h => by
    rw [toP] at h
    split at h
    · rename_i ps e
      cases h
      exact .lst (SqL.of hs) (RepL.dp r e)
    · cases h
  | _, _, _, _, .dct _ _ _ _, h => by simp [toP] at h
  | _, _, _, _, .dcn _ _ _ _ _ _, h => by simp [toP] at h
  | _, _, _, _, .ins _ _ _, h => by simp [toP] at h
  | _, _, _, p, .frl hs r, h => by
    rw [toP] at h
    split at h
    · rename_i ps e
      cases h
      exact .lst hs.seq (RepL.dp r e)
    · cases h
theorem RepL.dp {H : Hp} : ∀ {ds : List D} {vs : List V} {F : List Addr} {ps : List PyData}, RepL G H ds vs F → toPs ds = some ps → DpAll G.K H vs ps
  | _, _, _, ps, .nil, h => by
    simp [toPs] at h
    subst h
    exact .nil
  | _, _, _, ps, .cons r rs, h => by
    rw [toPs] at h
    split at h
    · rename_i p ps e1 e2
      cases h
      exact .cons (Rep.dp r e1) (RepL.dp rs e2)
    · cases h
end
def fEq : D → D → Option D := fun d e => match toP d, toP e with
  | some p, some q => if (SeqAt.shaped p && SeqAt.shaped q) = true then some (.bl (PyData.eqv p q)) else none
  | _, _ => none
def fNe : D → D → Option D := fun d e => match toP d, toP e with
  | some p, some q => if (SeqAt.shaped p && SeqAt.shaped q) = true then some (.bl (!PyData.eqv p q)) else none
  | _, _ => none
theorem op_Eq (ov : Ov G Xs) (hu : Hu Xs) : OP2 G Xs (compareOp .Eq) fEq := by
  refine ⟨rEqD G.K, fun j => by have := op_eqD (X := Xs j) (by have := hu j; omega); rw [← ov j]; exact this, fun H d e z v u F F' Q rd re hz fr => ?_⟩
  unfold fEq at hz
  split at hz
  · rename_i p q e1 e2
    split at hz
    · rename_i hc
      rw [Bool.and_eq_true] at hc
      cases hz
      exact ⟨p, q, rd.dp e1, re.dp e2, hc.1, hc.2, fresh_bl fr⟩
    · cases hz
  · cases hz
theorem op_Ne (ov : Ov G Xs) (hu : Hu Xs) : OP2 G Xs (compareOp .NotEq) fNe := by
  refine ⟨rNeD G.K, fun j => by have := op_neD (X := Xs j) (by have := hu j; omega); rw [← ov j]; exact this, fun H d e z v u F F' Q rd re hz fr => ?_⟩
  unfold fNe at hz
  split at hz
  · rename_i p q e1 e2
    split at hz
    · rename_i hc
      rw [Bool.and_eq_true] at hc
      cases hz
      exact ⟨p, q, rd.dp e1, re.dp e2, hc.1, hc.2, fresh_bl fr⟩
    · cases hz
  · cases hz

/-! ### in -/
theorem room_in {A : Around} {d : PyData} {n : Nat} (hs : SeqAt.shaped d = true) (hu : A.units + 80 < cLine) : A.units + 1 + min n d.depth < cLine := by
  have h1 := SeqAt.depth_of_shaped hs
  have h2 : min n d.depth ≤ d.depth := Nat.min_le_right _ _
  omega
def rInT (K : PySem.W.Frag) (neg : Bool) : R2 := fun x y H Q => ∃ d ds, Dp K H x d ∧ (Dp K H y (.tuple ds) ∨ Dp K H y (.list ds)) ∧ SeqAt.shaped d = true ∧ PyData.canLayAll0 ds = true ∧ Q (.bl (if neg = true then !ds.any fun z => PyData.eqv z d else ds.any fun z => PyData.eqv z d)) H
theorem opr_inT {X : Cx} (hu : X.A.units + 80 < cLine) : OpR X (compareOp .In) (rInT X.K false) := by
  intro pins s σ H x y v u Q I rx ry h
  obtain ⟨d, ds, hd, he, sd, se, q⟩ := h
  obtain ⟨as, r1⟩ := Dp.reads I d x v hd rx
  rcases he with he | he
  · obtain ⟨bs, r2⟩ := Dp.reads I (.tuple ds) y u he ry
    exact SeqAt.in_tuple_reads r2 r1 se (SeqAt.canLay_of_shaped sd) (room_in sd hu) ⟨.bl (ds.any fun z => PyData.eqv z d), H, I, rfl, q⟩
  · obtain ⟨bs, r2⟩ := Dp.reads I (.list ds) y u he ry
    exact SeqAt.in_list_reads r2 r1 se (SeqAt.canLay_of_shaped sd) (room_in sd hu) ⟨.bl (ds.any fun z => PyData.eqv z d), H, I, rfl, q⟩
theorem opr_notInT {X : Cx} (hu : X.A.units + 80 < cLine) : OpR X (compareOp .NotIn) (rInT X.K true) := by
  intro pins s σ H x y v u Q I rx ry h
  obtain ⟨d, ds, hd, he, sd, se, q⟩ := h
  obtain ⟨as, r1⟩ := Dp.reads I d x v hd rx
  rcases he with he | he
  · obtain ⟨bs, r2⟩ := Dp.reads I (.tuple ds) y u he ry
    exact SeqAt.notIn_tuple_reads r2 r1 se (SeqAt.canLay_of_shaped sd) (room_in sd hu) ⟨.bl (!ds.any fun z => PyData.eqv z d), H, I, rfl, q⟩
  · obtain ⟨bs, r2⟩ := Dp.reads I (.list ds) y u he ry
    exact SeqAt.notIn_list_reads r2 r1 se (SeqAt.canLay_of_shaped sd) (room_in sd hu) ⟨.bl (!ds.any fun z => PyData.eqv z d), H, I, rfl, q⟩
def fInSeq (neg : Bool) : D → D → Option D := fun d e => match toP d, toP e with
  | some p, some (.tuple qs) => if (SeqAt.shaped p && PyData.canLayAll0 qs) = true then some (.bl (if neg = true then !qs.any fun z => PyData.eqv z p else qs.any fun z => PyData.eqv z p)) else none
  | some p, some (.list qs) => if (SeqAt.shaped p && PyData.canLayAll0 qs) = true then some (.bl (if neg = true then !qs.any fun z => PyData.eqv z p else qs.any fun z => PyData.eqv z p)) else none
  | _, _ => none
theorem inSeq_core {neg : Bool} {H : Hp} {d e z : D} {v u : V} {F F' : List Addr} {Q : VK} (rd : Rep G H d v F) (re : Rep G H e u F') (hz : fInSeq neg d e = some z) (fr : Fresh G H z Q) : rInT G.K neg v u H Q := by
  unfold fInSeq at hz
  split at hz
  · rename_i p qs e1 e2
    split at hz
    · rename_i hc
      rw [Bool.and_eq_true] at hc
      cases hz
      exact ⟨p, qs, rd.dp e1, .inl (re.dp e2), hc.1, hc.2, fresh_bl fr⟩
    · cases hz
  · rename_i p qs e1 e2
    split at hz
    · rename_i hc
      rw [Bool.and_eq_true] at hc
      cases hz
      exact ⟨p, qs, rd.dp e1, .inr (re.dp e2), hc.1, hc.2, fresh_bl fr⟩
    · cases hz
  · cases hz
theorem op_In (ov : Ov G Xs) (hu : Hu Xs) : OP2 G Xs (compareOp .In) (fInSeq false) :=
  ⟨rInT G.K false, fun j => by have := opr_inT (hu j); rw [← ov j]; exact this, fun H d e z v u F F' Q rd re hz fr => inSeq_core rd re hz fr⟩
theorem op_NotIn (ov : Ov G Xs) (hu : Hu Xs) : OP2 G Xs (compareOp .NotIn) (fInSeq true) :=
  ⟨rInT G.K true, fun j => by have := opr_notInT (hu j); rw [← ov j]; exact this, fun H d e z v u F F' Q rd re hz fr => inSeq_core rd re hz fr⟩

/-! ### joining -/
def lenB (n : Nat) : Bool := decide (n ≤ 1000000)
def fCatL : D → D → Option D
  | .lst xs, .lst ys => if (lenB (xs.length + ys.length) && (immL xs && immL ys)) = true then some (.lst (xs ++ ys)) else none
  | _, _ => none
def fCatT : D → D → Option D
  | .tup xs, .tup ys => if (lenB (xs.length + ys.length) && (immL xs && immL ys)) = true then some (.tup (xs ++ ys)) else none
  | _, _ => none
def fCatS : D → D → Option D
  | .str x, .str y => if lenB (x.length + y.length) = true then some (.str (x ++ y)) else none
  | _, _ => none
theorem immL_append : ∀ {xs ys : List D}, immL xs = true → immL ys = true → immL (xs ++ ys) = true
  | [], _, _, h => h
  | x :: xs, ys, h, h' => by
    rw [immL, Bool.and_eq_true] at h
    rw [List.cons_append, immL, h.1, immL_append h.2 h']
    rfl
theorem op_CatL : OP2 G Xs (binaryOp .Add) fCatL := by
  refine ⟨_, fun _ => op_cat, fun H d e z v u F F' Q rd re hz fr => ?_⟩
  cases d with
  | lst xs =>
    cases e with
    | lst ys =>
      have hz' : (if (lenB (xs.length + ys.length) && (immL xs && immL ys)) = true then some (D.lst (xs ++ ys)) else none) = some z := hz
      split at hz'
      · rename_i hc
        simp only [Bool.and_eq_true, lenB, decide_eq_true_eq] at hc
        cases hz'
        cases rd with
        | lst h1 r1 =>
          cases re with
          | lst h2 r2 => exact ⟨_, _, _, _, rfl, rfl, h1, h2, by rw [← r1.length, ← r2.length]; exact line_le hc.1, fresh_lst fr (r1.append r2) (immL_append hc.2.1 hc.2.2)⟩
      · cases hz'
    | _ => cases hz
  | _ => cases hz
theorem op_CatT (ov : Ov G Xs) : OP2 G Xs (binaryOp .Add) fCatT := by
  refine ⟨rCatA G.K, fun j => by have := op_catA (X := Xs j); rw [← ov j]; exact this, fun H d e z v u F F' Q rd re hz fr => ?_⟩
  cases d with
  | tup xs =>
    cases e with
    | tup ys =>
      have hz' : (if (lenB (xs.length + ys.length) && (immL xs && immL ys)) = true then some (D.tup (xs ++ ys)) else none) = some z := hz
      split at hz'
      · rename_i hc
        simp only [Bool.and_eq_true, lenB, decide_eq_true_eq] at hc
        cases hz'
        cases rd with
        | tup h1 r1 =>
          cases re with
          | tup h2 r2 =>
            rename_i a vs b ws
            refine ⟨a, b, vs, ws, rfl, rfl, h1, h2, by rw [← r1.length, ← r2.length]; exact line_le hc.1, fun e => ?_, fun _ e => ?_, fun _ _ => fresh_tup fr (r1.append r2) (immL_append hc.2.1 hc.2.2)⟩
            · subst e
              cases r1
              exact fresh_old fr (.tup h2 r2) hc.2.2
            · subst e
              cases r2
              rw [List.append_nil] at fr
              exact fresh_old fr (.tup h1 r1) hc.2.1
      · cases hz'
    | _ => cases hz
  | _ => cases hz
theorem op_CatS : OP2 G Xs (binaryOp .Add) fCatS := by
  refine ⟨_, fun _ => op_add_str, fun H d e z v u F F' Q rd re hz fr => ?_⟩
  cases d with
  | str x =>
    cases e with
    | str y =>
      have hz' : (if lenB (x.length + y.length) = true then some (D.str (x ++ y)) else none) = some z := hz
      split at hz'
      · rename_i hc
        simp only [lenB, decide_eq_true_eq] at hc
        cases hz'
        cases rd
        cases re
        exact ⟨x, y, rfl, rfl, line_le hc, fresh_str fr⟩
      · cases hz'
    | _ => cases hz
  | _ => cases hz
def fRepL : D → D → Option D
  | .lst xs, .int k => if (decide (k ≤ 1000000) && (decide (-1000000 ≤ k) && (lenB (xs.length * k.toNat) && immL xs))) = true then some (.lst (List.replicate k.toNat xs).flatten) else none
  | _, _ => none
theorem RepL.rep {H : Hp} {xs : List D} {vs : List V} {F : List Addr} (r : RepL G H xs vs F) : ∀ n : Nat, immL xs = true → RepL G H (List.replicate n xs).flatten (List.replicate n vs).flatten [] ∧ immL (List.replicate n xs).flatten = true
  | 0, _ => ⟨.nil, rfl⟩
  | n + 1, hi => by
    have := r.imm hi
    subst this
    obtain ⟨h1, h2⟩ := RepL.rep r n hi
    rw [List.replicate_succ, List.replicate_succ, List.flatten_cons, List.flatten_cons]
    exact ⟨r.append h1, immL_append hi h2⟩
theorem op_RepL : OP2 G Xs (binaryOp .Mult) fRepL := by
  refine ⟨_, fun _ => op_rep, fun H d e z v u F F' Q rd re hz fr => ?_⟩
  cases d with
  | lst xs =>
    cases e with
    | int k =>
      have hz' : (if (decide (k ≤ 1000000) && (decide (-1000000 ≤ k) && (lenB (xs.length * k.toNat) && immL xs))) = true then some (D.lst (List.replicate k.toNat xs).flatten) else none) = some z := hz
      split at hz'
      · rename_i hc
        simp only [Bool.and_eq_true, lenB, decide_eq_true_eq] at hc
        cases hz'
        cases re
        cases rd with
        | lst h1 r1 =>
          obtain ⟨g1, g2⟩ := r1.rep k.toNat hc.2.2.2
          exact ⟨_, k, _, rfl, rfl, h1, by omega, by omega, by rw [← r1.length]; exact line_le hc.2.2.1, fresh_lst fr g1 g2⟩
      · cases hz'
    | _ => cases hz
  | _ => cases hz

/-! ### is None -/
def fIsN : D → D → Option D
  | d, .non => some (.bl (decide (d = .non)))
  | _, _ => none
def fNotN : D → D → Option D
  | d, .non => some (.bl (!decide (d = .non)))
  | _, _ => none
theorem non_iff {H : Hp} {d : D} {v : V} {F : List Addr} (r : Rep G H d v F) : decide (v = V.non) = decide (d = D.non) := by
  cases r <;> simp
theorem op_IsN : OP2 G Xs (compareOp .Is) fIsN := by
  refine ⟨_, fun _ => op_isN, fun H d e z v u F F' Q rd re hz fr => ?_⟩
  cases e with
  | non =>
    cases hz
    cases re
    refine ⟨rfl, ?_⟩
    rw [non_iff rd]
    exact fresh_bl fr
  | _ => cases hz
theorem op_NotN : OP2 G Xs (compareOp .IsNot) fNotN := by
  refine ⟨_, fun _ => op_notN, fun H d e z v u F F' Q rd re hz fr => ?_⟩
  cases e with
  | non =>
    cases hz
    cases re
    refine ⟨rfl, ?_⟩
    rw [non_iff rd]
    exact fresh_bl fr
  | _ => cases hz
end
end VL

/-! The value layer, part Q: calls of built-ins. -/
namespace VL
open PySem PySem.Spec L2 D
abbrev Hc {ι : Type} (Xs : ι → Cx) : Prop := ∀ j, (Xs j).calm = true
abbrev Hg {ι : Type} (Xs : ι → Cx) : Prop := ∀ j, (Xs j).A.guards = some []
def orL (f g : List D → Option D) : List D → Option D := fun a => match f a with
  | some z => some z
  | none => g a
section
variable {ι : Type} {G : Gd} {Xs : ι → Cx}
theorem CB.or {f : Value} {op op' : List D → Option D} (h : CB G Xs f op) (h' : CB G Xs f op') : CB G Xs f (orL op op') := by
  obtain ⟨r, hr, k⟩ := h
  obtain ⟨r', hr', k'⟩ := h'
  refine ⟨_, fun j => (hr j).or (hr' j), fun H ds z vs F Q rd hz fr => ?_⟩
  unfold orL at hz
  cases q : op ds with
  | some y =>
    rw [q] at hz
    cases hz
    exact .inl (k H ds z vs F Q rd q fr)
  | none =>
    rw [q] at hz
    exact .inr (k' H ds z vs F Q rd hz fr)
theorem RepL.one_inv {H : Hp} {d : D} {vs : List V} {F : List Addr} (r : RepL G H [d] vs F) : ∃ v, vs = [v] ∧ Rep G H d v F := by
  cases r with
  | cons r rs =>
    cases rs
    rw [List.append_nil]
    exact ⟨_, rfl, r⟩

/-! ### len -/
def fLen : List D → Option D
  | [.str x] => if lenB x.length = true then some (.int (x.length : Nat)) else none
  | [.lst ds] => some (.int (ds.length : Nat))
  | [.tup ds] => some (.int (ds.length : Nat))
  | _ => none
theorem cb_len (ov : Ov G Xs) : CB G Xs (.builtin "len") fLen := by
  refine ⟨fun xs H Q => ∃ x n, xs = [x] ∧ LenV G.K x H n ∧ Q (.int n) H, fun j => by have := call_len (X := Xs j); rw [← ov j]; exact this, fun H ds z vs F Q rd hz fr => ?_⟩
  match ds, hz with
  | [.str x], hz =>
    obtain ⟨v, rfl, r⟩ := rd.one_inv
    cases r
    have hz' : (if lenB x.length = true then some (D.int (x.length : Nat)) else none) = some z := hz
    split at hz'
    · rename_i hc
      cases hz'
      exact ⟨.str x, x.length, rfl, ⟨line_le (of_decide_eq_true hc), rfl⟩, fresh_int fr⟩
    · cases hz'
  | [.lst ds], hz =>
    cases hz
    obtain ⟨v, rfl, r⟩ := rd.one_inv
    cases r with
    | lst h rl => exact ⟨_, _, rfl, .inl ⟨_, SqL.of h, rfl⟩, by rw [← rl.length]; exact fresh_int fr⟩
  | [.tup ds], hz =>
    cases hz
    obtain ⟨v, rfl, r⟩ := rd.one_inv
    cases r with
    | tup h rl => exact ⟨_, _, rfl, .inr ⟨_, h, rfl⟩, by rw [← rl.length]; exact fresh_int fr⟩
def fLenD : List D → Option D
  | [.dct _ kvs] => some (.int (kvs.length : Nat))
  | _ => none
theorem cb_lenD (ov : Ov G Xs) : CB G Xs (.builtin "len") fLenD := by
  refine ⟨fun xs H Q => ∃ n kvs F a, xs = [.ref a] ∧ Rep G H (.dct n kvs) (.ref a) F ∧ Q (.int (kvs.length : Nat)) H, fun j => ?_, fun H ds z vs F Q rd hz fr => ?_⟩
  · intro pins s σ H xs us Q I r h
    obtain ⟨n, kvs, F, a, rfl, rd, q⟩ := h
    rw [← ov j] at rd
    cases rd with
    | dct ha nd hkk rl =>
      rename_i ps F0
      have e : kvs.length = ps.length := by
        have := congrArg List.length hkk
        simpa using this
      exact call_lenD pins s σ H _ us Q I r ⟨a, ps, rfl, ha, by rw [← e]; exact q⟩
    | dcn ha nd hkk dp rk' rl =>
      rename_i ys F0
      have e : kvs.length = ys.length := by
        have := congrArg List.length hkk
        simpa using this
      obtain ⟨u, rfl, rx⟩ := vals1 r
      obtain rfl : u = .ref a := rx
      obtain ⟨hs0, hl, dd⟩ := ndct_at I ha hkk dp rk'
      refine call_len_dictH hs0 dd (by rw [List.length_map]; rw [sizeLine_eq] at hl; omega) ?_
      rw [List.length_map, ← e]
      exact ⟨.int ((kvs.length : Nat) : Int), H, I.tok _, ⟨_, rfl⟩, q⟩
  · match ds, hz with
    | [.dct n kvs], hz =>
      cases hz
      obtain ⟨v, rfl, r⟩ := rd.one_inv
      obtain ⟨a, F0, rfl, rfl⟩ := r.dctv
      exact ⟨n, kvs, _, a, rfl, r, fresh_int fr⟩

/-! ### abs, int, bool, max, min -/
def fAbs : List D → Option D
  | [.int i] => some (.int (if i < 0 then -i else i))
  | _ => none
theorem cb_abs : CB G Xs (.builtin "abs") fAbs := by
  refine ⟨_, fun _ => call_abs, fun H ds z vs F Q rd hz fr => ?_⟩
  match ds, hz with
  | [.int i], hz =>
    cases hz
    obtain ⟨v, rfl, r⟩ := rd.one_inv
    cases r
    exact ⟨i, rfl, fresh_int fr⟩
def fInt : List D → Option D
  | [.int i] => some (.int i)
  | [.bl b] => some (.int (if b then 1 else 0))
  | _ => none
theorem cb_int : CB G Xs (.type "int") fInt := by
  refine ⟨_, fun _ => call_int1, fun H ds z vs F Q rd hz fr => ?_⟩
  match ds, hz with
  | [.int i], hz =>
    cases hz
    obtain ⟨v, rfl, r⟩ := rd.one_inv
    cases r
    exact .inl ⟨i, rfl, fresh_int fr⟩
  | [.bl i], hz =>
    cases hz
    obtain ⟨v, rfl, r⟩ := rd.one_inv
    cases r
    exact .inr ⟨i, rfl, fresh_int fr⟩
def fBool : List D → Option D
  | [.int i] => some (.bl (i != 0))
  | [.bl b] => some (.bl b)
  | _ => none
theorem cb_bool : CB G Xs (.type "bool") fBool := by
  refine ⟨_, fun _ => call_bool1, fun H ds z vs F Q rd hz fr => ?_⟩
  match ds, hz with
  | [.int i], hz =>
    cases hz
    obtain ⟨v, rfl, r⟩ := rd.one_inv
    cases r
    exact .inl ⟨i, rfl, fresh_bl fr⟩
  | [.bl i], hz =>
    cases hz
    obtain ⟨v, rfl, r⟩ := rd.one_inv
    cases r
    exact .inr ⟨i, rfl, fresh_bl fr⟩
theorem RepL.two_inv {H : Hp} {d e : D} {vs : List V} {F : List Addr} (r : RepL G H [d, e] vs F) : ∃ v w F1 F2, vs = [v, w] ∧ Rep G H d v F1 ∧ Rep G H e w F2 ∧ F = F1 ++ F2 := by
  cases r with
  | cons r rs =>
    cases rs with
    | cons r2 rs =>
      cases rs
      rw [List.append_nil]
      exact ⟨_, _, _, _, rfl, r, r2, rfl⟩
def fMax2 : List D → Option D
  | [.int i, .int j] => some (.int (if j > i then j else i))
  | _ => none
def fMin2 : List D → Option D
  | [.int i, .int j] => some (.int (if j < i then j else i))
  | _ => none
theorem cb_max2 (hc : Hc Xs) : CB G Xs (.builtin "max") fMax2 := by
  refine ⟨_, fun j => call_max2 (hc j), fun H ds z vs F Q rd hz fr => ?_⟩
  match ds, hz with
  | [.int i, .int j], hz =>
    cases hz
    obtain ⟨v, w, F1, F2, rfl, r1, r2, _⟩ := rd.two_inv
    cases r1
    cases r2
    exact ⟨i, j, rfl, fresh_int fr⟩
theorem cb_min2 (hc : Hc Xs) : CB G Xs (.builtin "min") fMin2 := by
  refine ⟨_, fun j => call_min2 (hc j), fun H ds z vs F Q rd hz fr => ?_⟩
  match ds, hz with
  | [.int i, .int j], hz =>
    cases hz
    obtain ⟨v, w, F1, F2, rfl, r1, r2, _⟩ := rd.two_inv
    cases r1
    cases r2
    exact ⟨i, j, rfl, fresh_int fr⟩
/-- the whole numbers of a list -/
def intsOf : List D → Option (List Int)
  | [] => some []
  | .int i :: r => (intsOf r).map (i :: ·)
  | _ => none
theorem RepL.ints {H : Hp} : ∀ {ds : List D} {vs : List V} {F : List Addr} {ns : List Int}, RepL G H ds vs F → intsOf ds = some ns → vs = ns.map V.int ∧ ds = ns.map D.int ∧ F = []
  | _, _, _, ns, .nil, h => by
    simp [intsOf] at h
    subst h
    exact ⟨rfl, rfl, rfl⟩
  | d :: ds, _, _, ns, .cons r rs, h => by
    cases d with
    | int i =>
      simp only [intsOf, Option.map_eq_some_iff] at h
      obtain ⟨ms, h1, rfl⟩ := h
      cases r
      obtain ⟨rfl, rfl, rfl⟩ := RepL.ints rs h1
      exact ⟨rfl, rfl, rfl⟩
    | _ => simp [intsOf] at h
def fSum : List D → Option D
  | [.lst ds] => (intsOf ds).map fun ns => .int ns.sum
  | _ => none
theorem cb_sum (hc : Hc Xs) (ov : Ov G Xs) : CB G Xs (.builtin "sum") fSum := by
  refine ⟨rSum G.K, fun j => by have := cr_sum (hc j); rw [← ov j]; exact this, fun H ds z vs F Q rd hz fr => ?_⟩
  match ds, hz with
  | [.lst ds], hz =>
    obtain ⟨ns, e, rfl⟩ := Option.map_eq_some_iff.mp hz
    obtain ⟨v, rfl, r⟩ := rd.one_inv
    cases r with
    | lst h rl =>
      obtain ⟨rfl, _, _⟩ := rl.ints e
      exact ⟨_, ns, rfl, SqL.of h, fresh_int fr⟩
def listMax : List Int → Option Int
  | [] => none
  | [i] => some i
  | i :: r => (listMax r).map fun m => if m > i then m else i
def listMin : List Int → Option Int
  | [] => none
  | [i] => some i
  | i :: r => (listMin r).map fun m => if m < i then m else i
theorem listMax_is : ∀ {ns : List Int} {m : Int}, m ∈ ns → (∀ y, y ∈ ns → y ≤ m) → listMax ns = some m
  | [], _, h, _ => nomatch h
  | [i], m, h, _ => by rw [List.mem_singleton.mp h, listMax]
  | i :: j :: r, m, h, g => by
    have ex : ∃ q, listMax (j :: r) = some q ∧ q ∈ j :: r ∧ ∀ y ∈ j :: r, y ≤ q := by
      have aux : ∀ (l : List Int) (a : Int), ∃ q, listMax (a :: l) = some q ∧ q ∈ a :: l ∧ ∀ y ∈ a :: l, y ≤ q := by
        intro l
        induction l with
        | nil => exact fun a => ⟨a, rfl, List.mem_cons_self, fun y hy => by rw [List.mem_singleton.mp hy]; exact Int.le_refl _⟩
        | cons b l ih =>
          intro a
          obtain ⟨q, h1, h2, h3⟩ := ih b
          refine ⟨if q > a then q else a, (by rw [listMax, h1] <;> first | rfl | (exact fun z => nomatch z)), ?_, fun y hy => ?_⟩
          · split
            · exact List.mem_cons_of_mem _ h2
            · exact List.mem_cons_self
          · rcases List.mem_cons.mp hy with rfl | hy
            · split <;> omega
            · have := h3 y hy
              split <;> omega
      exact aux r j
    obtain ⟨q, h1, h2, h3⟩ := ex
    rw [listMax, h1]
    · show some (if q > i then q else i) = some m
      congr 1
      have g1 := g i List.mem_cons_self
      have g2 := g q (List.mem_cons_of_mem _ h2)
      rcases List.mem_cons.mp h with rfl | h
      · split <;> omega
      · have := h3 m h
        split <;> omega
    · exact fun z => nomatch z
theorem listMin_is : ∀ {ns : List Int} {m : Int}, m ∈ ns → (∀ y, y ∈ ns → m ≤ y) → listMin ns = some m
  | [], _, h, _ => nomatch h
  | [i], m, h, _ => by rw [List.mem_singleton.mp h, listMin]
  | i :: j :: r, m, h, g => by
    have ex : ∃ q, listMin (j :: r) = some q ∧ q ∈ j :: r ∧ ∀ y ∈ j :: r, q ≤ y := by
      have aux : ∀ (l : List Int) (a : Int), ∃ q, listMin (a :: l) = some q ∧ q ∈ a :: l ∧ ∀ y ∈ a :: l, q ≤ y := by
        intro l
        induction l with
        | nil => exact fun a => ⟨a, rfl, List.mem_cons_self, fun y hy => by rw [List.mem_singleton.mp hy]; exact Int.le_refl _⟩
        | cons b l ih =>
          intro a
          obtain ⟨q, h1, h2, h3⟩ := ih b
          refine ⟨if q < a then q else a, (by rw [listMin, h1] <;> first | rfl | (exact fun z => nomatch z)), ?_, fun y hy => ?_⟩
          · split
            · exact List.mem_cons_of_mem _ h2
            · exact List.mem_cons_self
          · rcases List.mem_cons.mp hy with rfl | hy
            · split <;> omega
            · have := h3 y hy
              split <;> omega
      exact aux r j
    obtain ⟨q, h1, h2, h3⟩ := ex
    rw [listMin, h1]
    · show some (if q < i then q else i) = some m
      congr 1
      have g1 := g i List.mem_cons_self
      have g2 := g q (List.mem_cons_of_mem _ h2)
      rcases List.mem_cons.mp h with rfl | h
      · split <;> omega
      · have := h3 m h
        split <;> omega
    · exact fun z => nomatch z
def fMaxL : List D → Option D
  | [.lst ds] => (intsOf ds).bind fun ns => (listMax ns).map .int
  | _ => none
def fMinL : List D → Option D
  | [.lst ds] => (intsOf ds).bind fun ns => (listMin ns).map .int
  | _ => none
theorem cb_maxL (hc : Hc Xs) (ov : Ov G Xs) : CB G Xs (.builtin "max") fMaxL := by
  refine ⟨rMax G.K, fun j => by have := cr_max (hc j); rw [← ov j]; exact this, fun H ds z vs F Q rd hz fr => ?_⟩
  match ds, hz with
  | [.lst ds], hz =>
    obtain ⟨ns, e, hz⟩ := Option.bind_eq_some_iff.mp hz
    obtain ⟨m, e2, rfl⟩ := Option.map_eq_some_iff.mp hz
    obtain ⟨v, rfl, r⟩ := rd.one_inv
    cases r with
    | lst h rl =>
      obtain ⟨rfl, _, _⟩ := rl.ints e
      refine ⟨_, ns, rfl, SqL.of h, ?_, fun m' h1 h2 => ?_⟩
      · cases ns with
        | nil => cases e2
        | cons _ _ => exact Nat.succ_pos _
      · have := (listMax_is h1 h2).symm.trans e2
        cases this
        exact fresh_int fr
theorem cb_minL (hc : Hc Xs) (ov : Ov G Xs) : CB G Xs (.builtin "min") fMinL := by
  refine ⟨rMin G.K, fun j => by have := cr_min (hc j); rw [← ov j]; exact this, fun H ds z vs F Q rd hz fr => ?_⟩
  match ds, hz with
  | [.lst ds], hz =>
    obtain ⟨ns, e, hz⟩ := Option.bind_eq_some_iff.mp hz
    obtain ⟨m, e2, rfl⟩ := Option.map_eq_some_iff.mp hz
    obtain ⟨v, rfl, r⟩ := rd.one_inv
    cases r with
    | lst h rl =>
      obtain ⟨rfl, _, _⟩ := rl.ints e
      refine ⟨_, ns, rfl, SqL.of h, ?_, fun m' h1 h2 => ?_⟩
      · cases ns with
        | nil => cases e2
        | cons _ _ => exact Nat.succ_pos _
      · have := (listMin_is h1 h2).symm.trans e2
        cases this
        exact fresh_int fr

/-! ### tuple, list -/
def fTuple : List D → Option D
  | [.lst ds] => if immL ds = true then some (.tup ds) else none
  | [.tup ds] => if immL ds = true then some (.tup ds) else none
  | _ => none
theorem cb_tuple (ov : Ov G Xs) : CB G Xs (.type "tuple") fTuple := by
  refine ⟨fun xs H Q => ∃ p ys, xs = [.ref p] ∧ ((SqL G.K H p ys ∧ ∀ l, H l = none → Q (.ref l) (upd H l (.tup ys))) ∨ (SqT G.K H p ys ∧ Q (.ref p) H)), fun j => by have := call_tuple_of (X := Xs j); rw [← ov j]; exact this, fun H ds z vs F Q rd hz fr => ?_⟩
  match ds, hz with
  | [.lst ds], hz =>
    have hz' : (if immL ds = true then some (D.tup ds) else none) = some z := hz
    split at hz'
    · rename_i hi
      cases hz'
      obtain ⟨v, rfl, r⟩ := rd.one_inv
      cases r with
      | lst h rl => exact ⟨_, _, rfl, .inl ⟨SqL.of h, fresh_tup fr rl hi⟩⟩
    · cases hz'
  | [.tup ds], hz =>
    have hz' : (if immL ds = true then some (D.tup ds) else none) = some z := hz
    split at hz'
    · rename_i hi
      cases hz'
      obtain ⟨v, rfl, r⟩ := rd.one_inv
      cases r with
      | tup h rl => exact ⟨_, _, rfl, .inr ⟨h, fresh_old fr (.tup h rl) hi⟩⟩
    · cases hz'
def fList : List D → Option D
  | [.lst ds] => if immL ds = true then some (.lst ds) else none
  | [.tup ds] => if immL ds = true then some (.lst ds) else none
  | _ => none
theorem cb_list (ov : Ov G Xs) : CB G Xs (.type "list") fList := by
  refine ⟨fun xs H Q => ∃ p ys, xs = [.ref p] ∧ (SqL G.K H p ys ∨ SqT G.K H p ys) ∧ ∀ l, H l = none → Q (.ref l) (upd H l (.lst ys)), fun j => by have := call_list_of (X := Xs j); rw [← ov j]; exact this, fun H ds z vs F Q rd hz fr => ?_⟩
  match ds, hz with
  | [.lst ds], hz =>
    have hz' : (if immL ds = true then some (D.lst ds) else none) = some z := hz
    split at hz'
    · rename_i hi
      cases hz'
      obtain ⟨v, rfl, r⟩ := rd.one_inv
      cases r with
      | lst h rl => exact ⟨_, _, rfl, .inl (SqL.of h), fresh_lst fr rl hi⟩
    · cases hz'
  | [.tup ds], hz =>
    have hz' : (if immL ds = true then some (D.lst ds) else none) = some z := hz
    split at hz'
    · rename_i hi
      cases hz'
      obtain ⟨v, rfl, r⟩ := rd.one_inv
      cases r with
      | tup h rl => exact ⟨_, _, rfl, .inr h, fresh_lst fr rl hi⟩
    · cases hz'

/-! ### any, all -/
def blsOf : List D → Option (List Bool)
  | [] => some []
  | .bl i :: r => (blsOf r).map (i :: ·)
  | _ => none
theorem RepL.bls {H : Hp} : ∀ {ds : List D} {vs : List V} {F : List Addr} {ns : List Bool}, RepL G H ds vs F → blsOf ds = some ns → vs = ns.map V.bl
  | _, _, _, ns, .nil, h => by
    simp [blsOf] at h
    subst h
    rfl
  | d :: ds, _, _, ns, .cons r rs, h => by
    cases d with
    | bl i =>
      simp only [blsOf, Option.map_eq_some_iff] at h
      obtain ⟨ms, h1, rfl⟩ := h
      cases r
      rw [RepL.bls rs h1]
      rfl
    | _ => simp [blsOf] at h
def fAny : List D → Option D
  | [.lst ds] => (blsOf ds).map fun ns => .bl (ns.any id)
  | _ => none
def fAll : List D → Option D
  | [.lst ds] => (blsOf ds).map fun ns => .bl (ns.all id)
  | _ => none
theorem cb_any (hc : Hc Xs) (ov : Ov G Xs) : CB G Xs (.builtin "any") fAny := by
  refine ⟨rAny G.K, fun j => by have := cr_any (hc j); rw [← ov j]; exact this, fun H ds z vs F Q rd hz fr => ?_⟩
  match ds, hz with
  | [.lst ds], hz =>
    obtain ⟨ns, e, rfl⟩ := Option.map_eq_some_iff.mp hz
    obtain ⟨v, rfl, r⟩ := rd.one_inv
    cases r with
    | lst h rl =>
      have := rl.bls e
      subst this
      exact ⟨_, ns, rfl, SqL.of h, fresh_bl fr⟩
theorem cb_all (hc : Hc Xs) (ov : Ov G Xs) : CB G Xs (.builtin "all") fAll := by
  refine ⟨rAll G.K, fun j => by have := cr_all (hc j); rw [← ov j]; exact this, fun H ds z vs F Q rd hz fr => ?_⟩
  match ds, hz with
  | [.lst ds], hz =>
    obtain ⟨ns, e, rfl⟩ := Option.map_eq_some_iff.mp hz
    obtain ⟨v, rfl, r⟩ := rd.one_inv
    cases r with
    | lst h rl =>
      have := rl.bls e
      subst this
      exact ⟨_, ns, rfl, SqL.of h, fresh_bl fr⟩

/-! ### repr -/
def reprB (p : PyData) : Bool := p.showable && (decide (p.depth ≤ 60) && decide (p.shown.length ≤ 1000000))
def fRepr : List D → Option D
  | [d] => match toP d with
    | some p => if reprB p = true then some (.str p.shown) else none
    | none => none
  | _ => none
mutual
theorem noDict : ∀ {d : D} {p : PyData}, toP d = some p → p.hasDict = false
  | .non, p, h => by
    simp [toP] at h
    subst h
    rfl
  | .bl _, p, h => by
    simp [toP] at h
    subst h
    rfl
  | .int _, p, h => by
    simp [toP] at h
    subst h
    rfl
  | .str _, p, h => by
    simp [toP] at h
    subst h
    rfl
  | .tup ds, p, h => by
    rw [toP] at h
    split at h
    · rename_i ps e
      cases h
      rw [PyData.hasDict]
      exact noDicts e
    · cases h
  | .lst ds, p, h => by
    rw [toP] at h
    split at h
    · rename_i ps e
      cases h
      rw [PyData.hasDict]
      exact noDicts e
    · cases h
  | .dct _ _, _, h => by simp [toP] at h
  | .ins _ _, _, h => by simp [toP] at h
  | .frl ds, p, h => by
    rw [toP] at h
    split at h
    · rename_i ps e
      cases h
      rw [PyData.hasDict]
      exact noDicts e
    · cases h
theorem noDicts : ∀ {ds : List D} {ps : List PyData}, toPs ds = some ps → PyData.hasDictAll ps = false
  | [], ps, h => by
    simp [toPs] at h
    subst h
    rfl
  | d :: ds, ps, h => by
    rw [toPs] at h
    split at h
    · rename_i p ps e1 e2
      cases h
      rw [PyData.hasDictAll, noDict e1, noDicts e2]
      rfl
    · cases h
end
theorem cb_repr (ov : Ov G Xs) (hu : Hu Xs) (hg : Hg Xs) : CB G Xs (.builtin "repr") fRepr := by
  refine ⟨fun xs H Q => ∃ x p, xs = [x] ∧ Dp G.K H x p ∧ p.hasDict = false ∧ reprB p = true ∧ Q (.str p.shown) H, fun j => ?_, fun H ds z vs F Q rd hz fr => ?_⟩
  · intro pins s σ H xs us Q I r h
    obtain ⟨x, p, rfl, hd, hnd, hb, q⟩ := h
    obtain ⟨u, rfl, rx⟩ := vals1 r
    rw [← ov j] at hd
    obtain ⟨as, hr⟩ := Dp.reads I p x u hd rx
    simp only [reprB, Bool.and_eq_true, decide_eq_true_eq] at hb
    have hl : p.shown.length ≤ sizeLine := line_le hb.2.2
    have hnd' : p.hasDict = true → sysModules ∉ as := fun z => by rw [hnd] at z; cases z
    have fin : ∀ (h' : Heap) (t : Tok) (tk : Nat), (∀ b o, s.heap.get? b = some o → h'.get? b = some o) → L2.EP (Xs j) pins σ Q (.str p.shown t) { s with heap := h', toks := tk } := fun h' t tk hk => ⟨.str p.shown, H, I.kept hk, ⟨_, rfl⟩, q⟩
    have fin0 : ∀ (t : Tok) (tk : Nat), L2.EP (Xs j) pins σ Q (.str p.shown t) { s with toks := tk } := fun t tk => ⟨.str p.shown, H, I.tok _, ⟨_, rfl⟩, q⟩
    cases hd with
    | non =>
      cases rx
      exact P.repr_of_none (fin0 _ _)
    | bl b =>
      cases rx
      refine P.repr_of_bool ?_
      cases b <;> exact fin0 _ _
    | int i =>
      obtain ⟨t, rfl⟩ := rx
      exact P.repr_of_int (of_decide_eq_true hb.1) (fin0 _ _)
    | str x =>
      obtain ⟨t, rfl⟩ := rx
      exact P.repr_of_str (fin0 _ _) hl
    | lst hs ha =>
      cases rx
      exact repr_of_reads' hr hb.1 hnd' (hg j) (by have := hu j; omega) (fun _ _ e => e) (fun h' t tk hk => fin h' t tk hk) hl
    | tup hs ha =>
      cases rx
      exact repr_of_reads' hr hb.1 hnd' (hg j) (by have := hu j; omega) (fun _ _ e => e) (fun h' t tk hk => fin h' t tk hk) hl
  · match ds, hz with
    | [d], hz =>
      have hz' : (match toP d with
        | some p => if reprB p = true then some (D.str p.shown) else none
        | none => none) = some z := hz
      split at hz'
      · rename_i p e
        split at hz'
        · rename_i hb
          cases hz'
          obtain ⟨v, rfl, r⟩ := rd.one_inv
          exact ⟨v, p, rfl, r.dp e, noDict e, hb, fresh_str fr⟩
        · cases hz'
      · cases hz'
end
end VL

/-! The value layer, part R: list comprehensions. -/
namespace VL
open PySem PySem.Spec L2 D

/-! ### the block's own slots -/
def wipeD (st : DSt) : List Nat → DSt
  | [] => st
  | v :: vs => (wipeD st vs).set v none
def backD : List Nat → DSt → DSt → DSt
  | [], _, s => s
  | v :: vs, s0, s => (backD vs s0 s).set v (s0.getD v none)
theorem wipeD_length (st : DSt) : ∀ vs : List Nat, (wipeD st vs).length = st.length
  | [] => rfl
  | v :: vs => by unfold wipeD; rw [List.length_set, wipeD_length st vs]
theorem backD_length (s0 s : DSt) : ∀ vs : List Nat, (backD vs s0 s).length = s.length
  | [] => rfl
  | v :: vs => by unfold backD; rw [List.length_set, backD_length s0 s vs]
theorem wipeD_off {st : DSt} {i : Nat} : ∀ {vs : List Nat}, i ∉ vs → (wipeD st vs)[i]? = st[i]?
  | [], _ => rfl
  | v :: vs, h => by
    simp only [List.mem_cons, not_or] at h
    unfold wipeD
    rw [List.getElem?_set_ne (Ne.symm h.1), wipeD_off h.2]
theorem wipeD_in {st : DSt} {i : Nat} {d : D} : ∀ {vs : List Nat}, i ∈ vs → (wipeD st vs)[i]? ≠ some (some d)
  | [], h => nomatch h
  | v :: vs, h => by
    unfold wipeD
    by_cases e : v = i
    · subst e
      by_cases hv : v < (wipeD st vs).length
      · rw [List.getElem?_set_self hv]
        exact fun z => nomatch z
      · rw [List.getElem?_eq_none (by simpa using hv)]
        exact fun z => nomatch z
    · rw [List.getElem?_set_ne e]
      rcases List.mem_cons.mp h with z | z
      · exact absurd z.symm e
      · exact wipeD_in z
theorem backD_off {s0 s : DSt} {i : Nat} : ∀ {vs : List Nat}, i ∉ vs → (backD vs s0 s)[i]? = s[i]?
  | [], _ => rfl
  | v :: vs, h => by
    simp only [List.mem_cons, not_or] at h
    unfold backD
    rw [List.getElem?_set_ne (Ne.symm h.1), backD_off h.2]
theorem backD_in {s0 s : DSt} {i : Nat} (hl : s0.length = s.length) : ∀ {vs : List Nat}, i ∈ vs → (backD vs s0 s)[i]? = s0[i]?
  | [], h => nomatch h
  | v :: vs, h => by
    unfold backD
    by_cases e : v = i
    · subst e
      by_cases hv : v < s0.length
      · rw [List.getElem?_set_self (by rw [backD_length, ← hl]; exact hv), List.getElem?_eq_getElem hv]
        simp [List.getD, List.getElem?_eq_getElem hv]
      · rw [List.getElem?_eq_none (by simpa [backD_length, ← hl] using hv), List.getElem?_eq_none (by omega)]
    · rw [List.getElem?_set_ne e]
      rcases List.mem_cons.mp h with z | z
      · exact absurd z.symm e
      · exact backD_in hl z
theorem wipe_off {σ : St} {i : Nat} : ∀ {vs : List Nat}, i ∉ vs → (wipe σ vs)[i]? = σ[i]?
  | [], _ => rfl
  | v :: vs, h => by
    simp only [List.mem_cons, not_or] at h
    unfold wipe
    rw [List.getElem?_set_ne (Ne.symm h.1), wipe_off h.2]
theorem wipe_in {σ σ' : St} {i : Nat} (hl : σ.length = σ'.length) : ∀ {vs : List Nat}, i ∈ vs → (wipe σ vs)[i]? = (wipe σ' vs)[i]?
  | [], h => nomatch h
  | v :: vs, h => by
    unfold wipe
    by_cases e : v = i
    · subst e
      by_cases hv : v < σ.length
      · rw [List.getElem?_set_self (by rw [wipe_length]; exact hv), List.getElem?_set_self (by rw [wipe_length, ← hl]; exact hv)]
      · rw [List.getElem?_eq_none (by simpa [wipe_length] using hv), List.getElem?_eq_none (by simpa [wipe_length, ← hl] using hv)]
    · rw [List.getElem?_set_ne e, List.getElem?_set_ne e]
      rcases List.mem_cons.mp h with z | z
      · exact absurd z.symm e
      · exact wipe_in hl z
theorem wipe_eq {σ σ' : St} {vs : List Nat} (hl : σ.length = σ'.length) (h : ∀ i, i ∉ vs → σ[i]? = σ'[i]?) : wipe σ vs = wipe σ' vs := by
  refine List.ext_getElem? fun i => ?_
  by_cases hi : i ∈ vs
  · exact wipe_in hl hi
  · rw [wipe_off hi, wipe_off hi, h i hi]
def wipeF (vs : List Nat) (Fs : Nat → List Addr) : Nat → List Addr := fun i => if i ∈ vs then [] else Fs i
theorem wipeF_in {vs : List Nat} {Fs : Nat → List Addr} {i : Nat} (h : i ∈ vs) : wipeF vs Fs i = [] := if_pos h
theorem wipeF_off {vs : List Nat} {Fs : Nat → List Addr} {i : Nat} (h : i ∉ vs) : wipeF vs Fs i = Fs i := if_neg h
/-- the slots of the block are no places that change -/
def Apt (M vs : List Nat) : Bool := vs.all fun i => !M.contains i
theorem Apt.of {M vs : List Nat} (h : Apt M vs = true) {i : Nat} (hi : i ∈ vs) : i ∉ M := by
  have := List.all_eq_true.mp h i hi
  rw [Bool.not_eq_true', List.contains_eq_mem, decide_eq_false_iff_not] at this
  exact this
section
variable {G : Gd} {C : Act} {Fs Fs1 : Nat → List Addr} {σ : St} {H H1 : Hp} {st st1 : DSt} {vs M : List Nat}
theorem SR.wipe (r : SR G C Fs σ H st) (ap : Apt C.M vs = true) : SR G C (wipeF vs Fs) (L2.wipe σ vs) H (wipeD st vs) := by
  refine ⟨by rw [wipe_length, wipeD_length]; exact r.len, fun i d e => ?_, fun i h => ?_, fun i hi => ?_, fun i hi j hj a h z => ?_, fun i hi a h => ?_, r.pr, fun i hi a h => ?_, r.up, fun i hi hn => ?_, r.mo⟩
  · by_cases hi : i ∈ vs
    · exact absurd e (wipeD_in hi)
    · rw [wipeD_off hi] at e
      rw [wipe_off hi, wipeF_off hi]
      exact r.rep i d e
  · by_cases hi : i ∈ vs
    · exact wipeF_in hi
    · rw [wipeF_off hi]
      exact r.emp i fun d z => h d (by rw [wipeD_off hi]; exact z)
  · by_cases hv : i ∈ vs
    · rw [wipeF_in hv]
      exact List.nodup_nil
    · rw [wipeF_off hv]
      exact r.ndo i hi
  · rw [wipeF_off fun z => Apt.of ap z hi] at h
    by_cases hv : j ∈ vs
    · rw [wipeF_in hv] at z
      cases z
    · rw [wipeF_off hv] at z
      exact r.dj i hi j hj a h z
  · by_cases hv : i ∈ vs
    · rw [wipeF_in hv] at h
      cases h
    · rw [wipeF_off hv] at h
      exact r.owno i hi a h
  · rw [wipeF_off fun z => Apt.of ap z hi] at h
    exact r.prd i hi a h
  · rw [wipe_off fun z => Apt.of ap z hi]
    exact r.pin i hi hn
/-- the activation within a block: own is what changes -/
def blkA (C : Act) (P : Hp) : Act := { C with Pr := P, O := C.M }
theorem SR.guardO (r : SR G C Fs σ H st) : SR G (blkA C (prot C.M Fs H)) Fs σ H st :=
  ⟨r.len, r.rep, r.emp, fun i hi => r.nd i hi, r.dj, fun i hi => r.own i hi, fun a o h => prot_sub h, fun i hi a h => prot_in hi h, r.up, r.pin, fun i hi => hi⟩
/-- back from the block: its own slots as they were -/
def backF (vs : List Nat) (Fs Fs1 : Nat → List Addr) : Nat → List Addr := fun i => if i ∈ vs then Fs i else Fs1 i
theorem SR.back (r : SR G C Fs σ H st) (ap : Apt C.M vs = true) (r1 : SR G (blkA C (prot C.M Fs H)) Fs1 (L2.wipe σ vs) H1 st1) (keep : ∀ i, i ∉ C.M → i ∉ vs → Fs1 i = Fs i) (grow : ∀ i ∈ C.M, ∀ a ∈ Fs1 i, a ∈ Fs i ∨ H a = none) (hl : st.length = st1.length) : SR G C (backF vs Fs Fs1) σ H1 (backD vs st st1) := by
  have inn : ∀ {i}, i ∈ vs → backF vs Fs Fs1 i = Fs i := fun h => if_pos h
  have out : ∀ {i}, i ∉ vs → backF vs Fs Fs1 i = Fs1 i := fun h => if_neg h
  have mo : ∀ {i}, i ∈ C.M → backF vs Fs Fs1 i = Fs1 i := fun h => out fun z => Apt.of ap z h
  have hoff : Off (fun a => ∃ i ∈ C.M, a ∈ Fs i) H H1 := fun a o e n => r1.pr a o (by
    show prot C.M Fs H a = some o
    rw [prot_of fun i hi z => n ⟨i, hi, z⟩]
    exact e)
  refine ⟨by rw [backD_length, ← r1.len, wipe_length], fun i d e => ?_, fun i h => ?_, fun i hi => ?_, fun i hi j hj a h z => ?_, fun i hi a h => ?_, fun a o e => r1.pr a o (r.prot_le a o e), fun i hi a h => ?_, r1.up, fun i hi hn => ?_, r.mo⟩
  · by_cases hi : i ∈ vs
    · rw [backD_in hl hi] at e
      rw [inn hi]
      obtain ⟨v, h1, h2⟩ := r.rep i d e
      exact ⟨v, h1, h2.off (W := fun a => ∃ i ∈ C.M, a ∈ Fs i) (fun a ⟨i, _, h⟩ => r.cell h) hoff fun a ha ⟨j, hj, z⟩ => r.dj j hj i (fun w => Apt.of ap hi (w ▸ hj)) a z ha⟩
    · rw [backD_off hi] at e
      rw [out hi]
      obtain ⟨v, h1, h2⟩ := r1.rep i d e
      rw [wipe_off hi] at h1
      exact ⟨v, h1, h2⟩
  · by_cases hi : i ∈ vs
    · rw [inn hi]
      exact r.emp i fun d z => h d (by rw [backD_in hl hi]; exact z)
    · rw [out hi]
      exact r1.emp i fun d z => h d (by rw [backD_off hi]; exact z)
  · by_cases hv : i ∈ vs
    · rw [inn hv]
      exact r.ndo i hi
    · rw [out hv]
      by_cases hm : i ∈ C.M
      · exact r1.nd i hm
      · rw [keep i hm hv]
        exact r.ndo i hi
  · rw [mo hi] at h
    by_cases hv : j ∈ vs
    · rw [inn hv] at z
      rcases grow i hi a h with w | w
      · exact r.dj i hi j hj a w z
      · exact r.dom z w
    · rw [out hv] at z
      exact r1.dj i hi j hj a h z
  · by_cases hv : i ∈ vs
    · rw [inn hv] at h
      exact r.owno i hi a h
    · rw [out hv] at h
      by_cases hm : i ∈ C.M
      · exact r1.own i hm a h
      · rw [keep i hm hv] at h
        exact r.owno i hi a h
  · rw [mo hi] at h
    cases q : C.Pr a with
    | none => rfl
    | some u =>
      have z : prot C.M Fs H a = none := r1.prd i hi a h
      rw [r.prot_le a u q] at z
      cases z
  · have := r1.pin i hi hn
    rw [wipe_off fun z => Apt.of ap z hi] at this
    exact this
end

/-! ### the turns -/
def lcL (vs : List Nat) (gt : D → DSt → Option DSt) (gc : DSt → Option (Bool × DSt)) (ge : DSt → Option (D × DSt)) : List D → DSt → Option (List D × DSt)
  | [], s => some ([], s)
  | d :: ds, s => (gt d s).bind fun s1 => (gc s1).bind fun p => if p.1 = true then (ge p.2).bind fun q => (lcL vs gt gc ge ds (wipeD q.2 vs)).map fun r => (q.1 :: r.1, r.2) else lcL vs gt gc ge ds (wipeD p.2 vs)
def gLc (vs : List Nat) (gi : DSt → Option (List D × DSt)) (gt : D → DSt → Option DSt) (gc : DSt → Option (Bool × DSt)) (ge : DSt → Option (D × DSt)) : DSt → Option (D × DSt) := fun st => (gi st).bind fun p => (lcL vs gt gc ge p.1 (wipeD p.2 vs)).bind fun r =>
  if lenB r.1.length = true then some (.lst r.1, backD vs p.2 r.2) else none
def gYes : DSt → Option (Bool × DSt) := fun st => some (true, st)
/-- the tests of a comprehension -/
def ETs {ι : Type} (G : Gd) (Xs : ι → Cx) (M T : List Nat) (es : List Expr) (g : DSt → Option (Bool × DSt)) : Prop :=
  ∃ t, (∀ j, PTs (Xs j) es t) ∧ ∀ (C : Act) (Fs : Nat → List Addr) (σ : St) (H : Hp) (st : DSt) (b : Bool) (st' : DSt) (Q : Bool → Hp → Prop), C.M = M → SR G C Fs σ H st → g st = some (b, st') →
    (∀ H' Fs', SR G C Fs' σ H' st' → Eff T Fs H st Fs' H' st' → Q b H') → t σ H Q
/-- the blocks of a comprehension -/
abbrev BI (ι : Type) := ι × Shared × Hp × Addr × List (Str × Addr) × List Addr
abbrev blkX {ι : Type} (Xs : ι → Cx) (scope : Scope) : BI ι → Cx := fun p => (Xs p.1).blk p.2.1 p.2.2.1 scope (compEnvC scope p.2.2.2.2.1 p.2.2.2.1 (Xs p.1).env) p.2.2.2.2.2
section
variable {ι : Type} {G : Gd} {Xs : ι → Cx} {M T Ti Tc Te S ws : List Nat} {o : Bool} {pos : Pos} {c elt tg iter : Expr} {ifs : List Expr} {scope : Scope} {gt : D → DSt → Option DSt} {gc : DSt → Option (Bool × DSt)} {ge : DSt → Option (D × DSt)} {gi : DSt → Option (List D × DSt)}
theorem ets_nil : ETs G Xs M [] [] gYes := by
  refine ⟨tYes, fun _ => pts_nil, fun C Fs σ H st b st' Q hM r hg q => ?_⟩
  cases hg
  exact q H Fs r (Eff.pure (fun _ _ z => z) [])
theorem ets_one (h : ET G Xs M T c gc) : ETs G Xs M T [c] gc := by
  obtain ⟨t, p, k⟩ := h
  exact ⟨t, fun j => pts_one (p j), k⟩
def Inn (vs ws : List Nat) : Bool := ws.all fun i => vs.contains i
theorem Inn.of {vs ws : List Nat} (h : Inn vs ws = true) {i : Nat} (hi : i ∈ ws) : i ∈ vs := by
  have := List.all_eq_true.mp h i hi
  rw [List.contains_eq_mem, decide_eq_true_eq] at this
  exact this
def Sub (M T : List Nat) : Bool := T.all fun i => M.contains i

/-- the state of a block between its turns, seen from its start -/
structure BS (G : Gd) (C : Act) (P : Hp) (vs : List Nat) (σ : St) (H0 : Hp) (Fs0 : Nat → List Addr) (s0 : DSt) (T : List Nat) (Fb : Nat → List Addr) (H : Hp) (sb : DSt) : Prop where
  sr : SR G (blkA C P) Fb (L2.wipe σ vs) H sb
  same : ∀ i, i ∉ T → i ∉ vs → Fb i = Fs0 i ∧ sb[i]? = s0[i]?
  inn : ∀ i ∈ vs, Fb i = []
  grow : ∀ i, ∀ a ∈ Fb i, a ∈ Fs0 i ∨ H0 a = none
  off : ∀ a o, H0 a = some o → (∀ i ∈ T, a ∉ Fs0 i) → H a = some o
  dom : ∀ a, H a = none → H0 a = none
/-- within a turn -/
structure Go (vs T : List Nat) (Fb : Nat → List Addr) (H : Hp) (sb : DSt) (Fs' : Nat → List Addr) (H' : Hp) (s' : DSt) : Prop where
  off : ∀ a o, H a = some o → (∀ i ∈ T, a ∉ Fb i) → H' a = some o
  same : ∀ i, i ∉ T → i ∉ vs → Fs' i = Fb i ∧ s'[i]? = sb[i]?
  grow : ∀ i, i ∉ vs → ∀ a ∈ Fs' i, a ∈ Fb i ∨ H a = none
  dom : ∀ a, H' a = none → H a = none
section
variable {C : Act} {P H0 H H' H2 : Hp} {vs U : List Nat} {σ σ' : St} {Fs0 Fb Fs' Fs2 : Nat → List Addr} {s0 sb s' s2 : DSt}
theorem Go.eff (g : Go vs T Fb H sb Fs' H' s') (e : Eff U Fs' H' s' Fs2 H2 s2) (hU : ∀ i ∈ U, i ∈ T) (hT : ∀ i ∈ T, i ∉ vs) : Go vs T Fb H sb Fs2 H2 s2 := by
  refine ⟨fun a o ea n => e.off a o (g.off a o ea n) fun ⟨i, hi, z⟩ => ?_, fun i hi hv => ?_, fun i hv a h => ?_, fun a h => g.dom a (e.dom a h)⟩
  · rcases g.grow i (hT i (hU i hi)) a z with w | w
    · exact n i (hU i hi) w
    · rw [w] at ea
      cases ea
  · have q1 := e.same i fun z => hi (hU i z)
    have q2 := g.same i hi hv
    exact ⟨q1.1.trans q2.1, q1.2.trans q2.2⟩
  · rcases e.grow i a h with w | w
    · exact g.grow i hv a w
    · exact .inr (g.dom a w)
theorem BS.step (b : BS G C P vs σ H0 Fs0 s0 T Fb H sb) (g : Go vs T Fb H sb Fs' H' s') (hT : ∀ i ∈ T, i ∉ vs) (ap : Apt C.M vs = true) (r : SR G (blkA C P) Fs' σ' H' s') (hw : L2.wipe σ' vs = L2.wipe σ vs) : BS G C P vs σ H0 Fs0 s0 T (wipeF vs Fs') H' (wipeD s' vs) := by
  refine ⟨by rw [← hw]; exact SR.wipe (C := blkA C P) r ap, fun i hi hv => ?_, fun i hi => wipeF_in hi, fun i a h => ?_, fun a o e n => g.off a o (b.off a o e n) fun i hi z => ?_, fun a h => b.dom a (g.dom a h)⟩
  · rw [wipeF_off hv, wipeD_off hv]
    have q1 := g.same i hi hv
    have q2 := b.same i hi hv
    exact ⟨q1.1.trans q2.1, q1.2.trans q2.2⟩
  · by_cases hv : i ∈ vs
    · rw [wipeF_in hv] at h
      cases h
    · rw [wipeF_off hv] at h
      rcases g.grow i hv a h with w | w
      · exact b.grow i a w
      · exact .inr (b.dom a w)
  · rcases b.grow i a z with w | w
    · exact n i hi w
    · rw [w] at e
      cases e
/-- what is held apart through a turn -/
theorem Go.apart (g : Go vs T Fb H sb Fs' H' s') {a : Addr} {o : HO} (e : H a = some o) (n : ∀ i, a ∉ Fb i) : H' a = some o ∧ ∀ i, i ∉ vs → a ∉ Fs' i :=
  ⟨g.off a o e fun i _ => n i, fun i hv z => by
    rcases g.grow i hv a z with w | w
    · exact n i w
    · rw [w] at e
      cases e⟩
theorem Go.repL (g : Go vs T Fb H sb Fs' H' s') (b : SR G (blkA C P) Fb (L2.wipe σ vs) H sb) {ds : List D} {xs : List V} {F : List Addr} (r : RepL G H ds xs F) (n : ∀ i, ∀ a ∈ F, a ∉ Fb i) : RepL G H' ds xs F :=
  r.off (W := fun a => ∃ i ∈ T, a ∈ Fb i) (fun a ⟨i, _, h⟩ => b.cell h) (fun a o e w => g.off a o e fun i hi z => w ⟨i, hi, z⟩) fun a h ⟨i, _, z⟩ => n i a h z
end

/-- what an expression's tree tells -/
def EVk (G : Gd) (M T S : List Nat) (o : Bool) (t : TE) (g : DSt → Option (D × DSt)) : Prop := ∀ (C : Act) (Fs : Nat → List Addr) (σ : St) (H : Hp) (st : DSt) (d : D) (st' : DSt) (Q : VK), C.M = M → SR G C Fs σ H st → g st = some (d, st') →
    (∀ v H' F Fs', SR G C Fs' σ H' st' → Rep G H' d v F → Eff T Fs H st Fs' H' st' → Res M S o H Fs' F → Q v H') → t σ H Q
theorem ev_of {t : TE} {g : DSt → Option (D × DSt)} (p : ∀ j, PE (Xs j) elt t) (k : EVk G M T S o t g) : EV G Xs M T S o elt g := ⟨t, p, k⟩
theorem lc_sem {vs : List Nat} {wi : TI} {tt : TG} {tc : TT} {te : TE} (k1 : ∀ (C : Act) (Fs : Nat → List Addr) (σ : St) (H : Hp) (st : DSt) (ds : List D) (st' : DSt) (R : It → Hp → Prop), C.M = M → SR G C Fs σ H st → gi st = some (ds, st') →
      (∀ J H' Fs', SR G C Fs' σ H' st' → Eff Ti Fs H st Fs' H' st' → Walk G J ds (prot M Fs' H') → R J H') → wi σ H R)
    (k2 : ∀ (C : Act) (Fs : Nat → List Addr) (σ : St) (H : Hp) (st : DSt) (d : D) (st' : DSt) (v : V) (F : List Addr) (Q : St → Hp → Prop), C.M = M → (∀ i ∈ ws, i ∉ C.O) → SR G C Fs σ H st → Rep G H d v F → (∀ i ∈ M, ∀ a ∈ F, a ∉ Fs i) → gt d st = some st' →
      (∀ σ' Fs', SR G C Fs' σ' H st' → (∀ i ∈ M, Fs' i = Fs i) → (∀ i, i ∉ ws → Fs' i = Fs i ∧ st'[i]? = st[i]? ∧ σ'[i]? = σ[i]?) → σ'.length = σ.length → Q σ' H) → tt v σ H Q)
    (k3 : ∀ (C : Act) (Fs : Nat → List Addr) (σ : St) (H : Hp) (st : DSt) (b : Bool) (st' : DSt) (Q : Bool → Hp → Prop), C.M = M → SR G C Fs σ H st → gc st = some (b, st') →
      (∀ H' Fs', SR G C Fs' σ H' st' → Eff Tc Fs H st Fs' H' st' → Q b H') → tc σ H Q)
    (k4 : EVk G M Te [] true te ge) (apt : Apt M vs = true) (inn : Inn vs ws = true) (sub : Sub M (Tc ++ Te) = true) : EVk G M (Ti ++ (Tc ++ Te)) [] true (tLc wi tt tc te vs) (gLc vs gi gt gc ge) := by
  intro C Fs σ H st d st' Q hM r hgg q
  unfold gLc at hgg
  obtain ⟨⟨items, s1⟩, e1, hgg⟩ := Option.bind_eq_some_iff.mp hgg
  obtain ⟨⟨res, fin⟩, e2, hgg⟩ := Option.bind_eq_some_iff.mp hgg
  dsimp only at hgg e2
  split at hgg
  case isFalse => cases hgg
  rename_i hlen
  cases hgg
  have hres : res.length ≤ 1000000 := of_decide_eq_true hlen
  subst hM
  have hT : ∀ i ∈ Tc ++ Te, i ∉ vs := fun i hi z => by
    have := List.all_eq_true.mp sub i hi
    rw [List.contains_eq_mem, decide_eq_true_eq] at this
    exact Apt.of apt z this
  refine k1 C Fs σ H st items s1 _ rfl r e1 fun J H1 Fs1 r1 ef1 wk => ?_
  intro D0 hD0
  have sm0 : Same H1 (upd H1 D0 (.lst [])) := same_upd hD0
  have PD : prot C.M Fs1 H1 D0 = none := by
    cases e : prot C.M Fs1 H1 D0 with
    | none => rfl
    | some u =>
      rw [prot_sub e] at hD0
      cases hD0
  have hDF : ∀ i, D0 ∉ Fs1 i := fun i z => r1.dom z hD0
  have hwx : ∀ {i}, i ∈ vs → i ∉ Tc ++ Te := fun h z => hT _ z h
  refine ⟨fun i m H => m = items.length - i ∧ i ≤ items.length ∧ ∃ (acc : List V) (ad : List D) (Fa : List Addr) (sb : DSt) (Fb : Nat → List Addr) (more : List D), H D0 = some (.lst acc) ∧ RepL G H ad acc Fa ∧ Fa.Nodup ∧ (∀ a ∈ Fa, H1 a = none) ∧ (∀ i, ∀ a ∈ Fa, a ∉ Fb i) ∧ D0 ∉ Fa ∧ (∀ i, D0 ∉ Fb i) ∧
    BS G C (prot C.M Fs1 H1) (vs) σ H1 Fs1 s1 (Tc ++ Te) Fb H sb ∧ lcL (vs) gt gc ge (items.drop i) sb = some (more, fin) ∧ res = ad ++ more, ⟨_, rfl, Nat.zero_le _, [], [], [], wipeD s1 (vs), wipeF (vs) Fs1, res, upd_same, .nil, List.nodup_nil, (fun _ h => nomatch h), (fun _ _ h => nomatch h), (fun h => nomatch h), fun i z => ?_, ⟨SR.wipe (C := blkA C (prot C.M Fs1 H1)) (r1.guardO.same sm0) apt, fun i hi hv => ⟨wipeF_off hv, wipeD_off hv⟩, fun i hi => wipeF_in hi, fun i a h => ?_, fun a o e n => sm0 a o e, fun a h => upd_dom h⟩, by simpa using e2, rfl⟩, ?_⟩
  · by_cases hv : i ∈ vs
    · rw [wipeF_in hv] at z
      cases z
    · rw [wipeF_off hv] at z
      exact hDF i z
  · by_cases hv : i ∈ vs
    · rw [wipeF_in hv] at h
      cases h
    · rw [wipeF_off hv] at h
      exact .inl h
  rintro i m H2 ⟨rfl, hle, acc, ad, Fa, sb, Fb, more, hD, ra, nda, nwa, apa, nDa, nDb, bs, e3, e4⟩
  by_cases hlt : i < items.length
  · refine .inr ?_
    have hd : items[i]? = some items[i] := List.getElem?_eq_getElem hlt
    obtain ⟨hgo, hy⟩ := wk.go i H2 items[i] bs.sr.pr hd
    refine ⟨hgo, fun H => ∃ (acc : List V) (ad : List D) (Fa : List Addr) (sb : DSt) (Fb : Nat → List Addr) (more : List D), H D0 = some (.lst acc) ∧ RepL G H ad acc Fa ∧ Fa.Nodup ∧ (∀ a ∈ Fa, H1 a = none) ∧ (∀ i, ∀ a ∈ Fa, a ∉ Fb i) ∧ D0 ∉ Fa ∧ (∀ i, D0 ∉ Fb i) ∧
      BS G C (prot C.M Fs1 H1) (vs) σ H1 Fs1 s1 (Tc ++ Te) Fb H sb ∧ lcL (vs) gt gc ge (items.drop (i + 1)) sb = some (more, fin) ∧ res = ad ++ more, fun H' n => ⟨items.length - (i + 1), by omega, rfl, hlt, n⟩, fun x H3 y => ?_⟩
    obtain ⟨sm, F, rd, hF⟩ := hy x H3 y
    rw [List.drop_eq_getElem_cons hlt] at e3
    unfold lcL at e3
    obtain ⟨s3, e5, e3⟩ := Option.bind_eq_some_iff.mp e3
    obtain ⟨⟨b, s4⟩, e6, e3⟩ := Option.bind_eq_some_iff.mp e3
    refine k2 (blkA C (prot C.M Fs1 H1)) Fb _ H3 sb items[i] s3 x F _ rfl (fun i hi => Apt.of apt (Inn.of inn hi)) (bs.sr.same sm) rd (fun j hj a h z => hF a h (bs.sr.prd j hj a z)) e5 fun σ3 Fs3 r3 f3 o3 l3 => ?_
    have hw : L2.wipe σ3 (vs) = L2.wipe σ (vs) := by
      refine wipe_eq (by rw [l3, wipe_length]) fun k hk => ?_
      rw [(o3 k fun z => hk (Inn.of inn z)).2.2, wipe_off hk]
    have g3 : Go (vs) (Tc ++ Te) Fb H2 sb Fs3 H3 s3 := by
      refine ⟨fun a o e _ => sm a o e, fun k _ hk => ?_, fun k hk a h => ?_, fun a h => sm.free h⟩
      · have := o3 k fun z => hk (Inn.of inn z)
        exact ⟨this.1, this.2.1⟩
      · rw [(o3 k fun z => hk (Inn.of inn z)).1] at h
        exact .inl h
    refine ⟨hw, k3 (blkA C (prot C.M Fs1 H1)) Fs3 σ3 H3 s3 b s4 _ rfl r3 e6 fun H4 Fs4 r4 ef4 => ?_⟩
    have g4 := g3.eff ef4 (fun k hk => List.mem_append_left _ hk) hT
    dsimp only at e3
    cases b with
    | true =>
      rw [if_pos rfl] at e3 ⊢
      obtain ⟨⟨yd, s5⟩, e7, e3⟩ := Option.bind_eq_some_iff.mp e3
      obtain ⟨⟨more', fin'⟩, e8, e3⟩ := Option.map_eq_some_iff.mp e3
      cases e3
      refine k4 (blkA C (prot C.M Fs1 H1)) Fs4 σ3 H4 s4 yd s5 _ rfl r4 e7 fun v H5 F5 Fs5 r5 rd5 ef5 rs5 => ?_
      have g5 := g4.eff ef5 (fun k hk => List.mem_append_right _ hk) hT
      obtain ⟨hD5, hDn⟩ := g5.apart hD nDb
      have ra5 := g5.repL bs.sr ra apa
      have nD5 : D0 ∉ F5 := fun z => by
        have := rs5.nw rfl D0 z
        rw [(g4.apart hD nDb).1] at this
        cases this
      have nF5 : ∀ a ∈ F5, H1 a = none := fun a h => bs.dom a (g4.dom a (rs5.nw rfl a h))
      have al : acc.length = ad.length := ra.length.symm
      have alen : acc.length < 1000000 := by
        have := congrArg List.length e4
        rw [List.length_append, List.length_cons] at this
        omega
      refine ⟨acc, hD5, line_of alen, acc ++ [v], ad ++ [yd], Fa ++ F5, wipeD s5 (vs), wipeF (vs) Fs5, more', upd_same, (ra5.upd hD5 trivial nDa).append (RepL.one (rd5.upd hD5 trivial nD5)), List.nodup_append.mpr ⟨nda, rs5.nd rfl, fun a ha b hb e => ?_⟩, fun a h => ?_, fun k a h z => ?_, fun h => ?_, fun k z => ?_, ?_, e8, by rw [e4, List.append_assoc]; rfl⟩
      · subst e
        have h1 := rs5.nw rfl a hb
        have h2 := (g4.repL bs.sr ra apa).dom ha
        exact h2 h1
      · rcases List.mem_append.mp h with h | h
        · exact nwa a h
        · exact nF5 a h
      · by_cases hv : k ∈ vs
        · rw [wipeF_in hv] at z
          cases z
        · rw [wipeF_off hv] at z
          rcases List.mem_append.mp h with h | h
          · rcases g5.grow k hv a z with w | w
            · exact apa k a h w
            · exact ra.dom h w
          · exact rs5.ap rfl k a h z
      · rcases List.mem_append.mp h with h | h
        · exact nDa h
        · exact nD5 h
      · by_cases hv : k ∈ vs
        · rw [wipeF_in hv] at z
          cases z
        · rw [wipeF_off hv] at z
          exact hDn k hv z
      · have r5' : SR G (blkA C (prot C.M Fs1 H1)) Fs5 σ3 H5 s5 := r5
        have bs5 := bs.step g5 hT apt r5' hw
        refine ⟨?_, bs5.same, bs5.inn, bs5.grow, fun a o e n => ?_, fun a h => bs5.dom a (upd_dom h)⟩
        · refine bs5.sr.upd_apart hD5 trivial (fun k z => ?_) PD
          by_cases hv : k ∈ vs
          · rw [wipeF_in hv] at z
            cases z
          · rw [wipeF_off hv] at z
            exact hDn k hv z
        · rw [upd_ne fun z => by rw [z, hD0] at e; cases e]
          exact bs5.off a o e n
    | false =>
      rw [if_neg Bool.false_ne_true] at e3 ⊢
      obtain ⟨hD4, hDn⟩ := g4.apart hD nDb
      refine ⟨acc, ad, Fa, wipeD s4 (vs), wipeF (vs) Fs4, more, hD4, g4.repL bs.sr ra apa, nda, nwa, fun k a h z => ?_, nDa, fun k z => ?_, bs.step g4 hT apt r4 hw, e3, e4⟩
      · by_cases hv : k ∈ vs
        · rw [wipeF_in hv] at z
          cases z
        · rw [wipeF_off hv] at z
          rcases g4.grow k hv a z with w | w
          · exact apa k a h w
          · exact ra.dom h w
      · by_cases hv : k ∈ vs
        · rw [wipeF_in hv] at z
          cases z
        · rw [wipeF_off hv] at z
          exact hDn k hv z
  · have ei : i = items.length := by omega
    subst ei
    rw [List.drop_length] at e3
    unfold lcL at e3
    cases e3
    refine .inl ⟨wk.stop _ H2 bs.sr.pr (Nat.le_refl _), ?_⟩
    rw [List.append_nil] at e4
    subst e4
    have hl : s1.length = fin.length := by
      have h1 := bs.sr.len
      rw [wipe_length] at h1
      rw [← r1.len]
      exact h1
    have rb := r1.back apt bs.sr (fun i hm hv => (bs.same i (fun z => by
      have := List.all_eq_true.mp sub i z
      rw [List.contains_eq_mem, decide_eq_true_eq] at this
      exact hm this) hv).1) (fun i hi a h => bs.grow i a h) hl
    have hv : ∀ k, backF (vs) Fs1 Fb k = if k ∈ vs then Fs1 k else Fb k := fun _ => rfl
    have apF : ∀ k, ∀ a ∈ D0 :: Fa, a ∉ backF (vs) Fs1 Fb k := fun k a h z => by
      rw [hv k] at z
      split at z
      · rcases List.mem_cons.mp h with rfl | h
        · exact hDF k z
        · exact r1.dom z (nwa a h)
      · rcases List.mem_cons.mp h with rfl | h
        · exact nDb k z
        · exact apa k a h z
    have nw0 : ∀ a ∈ D0 :: Fa, H a = none := fun a h => by
      rcases List.mem_cons.mp h with rfl | h
      · exact ef1.dom _ hD0
      · exact ef1.dom a (nwa a h)
    refine q (.ref D0) H2 (D0 :: Fa) (backF (vs) Fs1 Fb) rb (.lst hD ra) ⟨fun a o e n => ?_, fun k hk => ?_, fun k a h => ?_, fun a h => ef1.dom a (bs.dom a h)⟩ ⟨fun k _ _ => apF k, fun _ => List.nodup_cons.mpr ⟨nDa, nda⟩, fun _ => nw0, fun _ => apF⟩
    · refine bs.off a o (ef1.off a o e fun ⟨k, hk, z⟩ => n ⟨k, List.mem_append_left _ hk, z⟩) fun k hk z => ?_
      rcases ef1.grow k a z with w | w
      · exact n ⟨k, List.mem_append_right _ hk, w⟩
      · rw [w] at e
        cases e
    · have h1 : k ∉ Ti := fun z => hk (List.mem_append_left _ z)
      have h2 : k ∉ Tc ++ Te := fun z => hk (List.mem_append_right _ z)
      have q1 := ef1.same k h1
      by_cases hkv : k ∈ vs
      · rw [hv k, if_pos hkv, backD_in hl hkv]
        exact q1
      · rw [hv k, if_neg hkv, backD_off hkv]
        have q2 := bs.same k h2 hkv
        exact ⟨q2.1.trans q1.1, q2.2.trans q1.2⟩
    · rw [hv k] at h
      split at h
      · exact ef1.grow k a h
      · rcases bs.grow k a h with w | w
        · exact ef1.grow k a w
        · exact .inr (ef1.dom a w)

theorem ev_lc {vs : List Nat} {own : List (Str × Nat)} (hc : Hc Xs) (hN : ∀ j, (Xs j).N.Nodup) (hi : DI G Xs M Ti tg iter gi) (ok : ∀ j, BlkOk (Xs j).N (Xs j).env.scope scope own) (hg : DG G (blkX Xs scope) M ws tg gt) (ht : ETs G (blkX Xs scope) M Tc ifs gc) (he : EV G (blkX Xs scope) M Te [] true elt ge)
    (hvs : own.map (·.2) = vs := by rfl) (apt : Apt M vs = true := by decide) (inn : Inn vs ws = true := by decide) (sub : Sub M (Tc ++ Te) = true := by decide) (hs : ∀ j x, foldedSetIterable iter (Xs j).env x = pure x := by intro _ _; rfl) :
    EV G Xs M (Ti ++ (Tc ++ Te)) [] true (.ListComp elt [⟨tg, iter, ifs, 0⟩] scope pos) (gLc vs gi gt gc ge) := by
  obtain ⟨wi, p1, k1⟩ := hi
  obtain ⟨tt, p2, k2⟩ := hg
  obtain ⟨tc, p3, k3⟩ := ht
  obtain ⟨te, p4, k4⟩ := he
  subst hvs
  exact ev_of (t := tLc wi tt tc te (own.map (·.2))) (fun j => pe_lc (hc j) (hN j) (p1 j) (ok j) (fun s H C cl fp => p2 (j, s, H, C, cl, fp)) (fun s H C cl fp => p3 (j, s, H, C, cl, fp)) (fun s H C cl fp => p4 (j, s, H, C, cl, fp)) (hs j)) (lc_sem k1 k2 k3 k4 apt inn sub)
/-- name = [..] on one line -/
theorem ds_setLc {X : Cx} {O : List Nat} {np : Nat} (i : Nat) {x : Str} {px spos : Pos} {vs : List Nat} {own : List (Str × Nat)} (hc : X.calm = true) (hN : X.N.Nodup) (hi : DI G (one X) M Ti tg iter gi) (ok : BlkOk X.N X.env.scope scope own) (hg : DG G (blkX (one X) scope) M ws tg gt) (ht : ETs G (blkX (one X) scope) M Tc ifs gc) (he : EV G (blkX (one X) scope) M Te [] true elt ge)
    (hvs : own.map (·.2) = vs := by rfl) (apt : Apt M vs = true := by decide) (inn : Inn vs ws = true := by decide) (sub : Sub M (Tc ++ Te) = true := by decide) (hx : X.N[i]? = some x := by rfl) (hl : X.env.scope.names.lookup x = some .local := by rfl) (hM : (!O.contains i || decide (np ≤ i)) = true := by decide)
    (hsw : swapsWith (.ListComp elt [⟨tg, iter, ifs, 0⟩] scope pos) (some (.Name x px)) spos.line X.env = pure true := by exact sw_true rfl rfl rfl rfl) (hs : ∀ x, foldedSetIterable iter X.env x = pure x := by intro _; rfl) :
    DS X G M O np (.Assign [.Name x px] (.ListComp elt [⟨tg, iter, ifs, 0⟩] scope pos) spos) (sSet i (gLc vs gi gt gc ge)) := by
  obtain ⟨wi, p1, k1⟩ := hi
  obtain ⟨tt, p2, k2⟩ := hg
  obtain ⟨tc, p3, k3⟩ := ht
  obtain ⟨te, p4, k4⟩ := he
  subst hvs
  have k : EVk G M (Ti ++ (Tc ++ Te)) [] true (tLc wi tt tc te (own.map (·.2))) (gLc (own.map (·.2)) gi gt gc ge) := lc_sem k1 k2 k3 k4 apt inn sub
  refine ⟨_, ps_setLc (i := i) hc hN hx hl hsw (p1 ()) ok (fun s H C cl fp => p2 ((), s, H, C, cl, fp)) (fun s H C cl fp => p3 ((), s, H, C, cl, fp)) (fun s H C cl fp => p4 ((), s, H, C, cl, fp)) hs, fun K C Fs σ H st out hMe hO hn r hgg q => ?_⟩
  unfold sSet at hgg
  obtain ⟨⟨d, s1⟩, e1, hgg⟩ := Option.map_eq_some_iff.mp hgg
  cases hgg
  refine k C Fs σ H st d s1 _ hMe r e1 fun v H' F Fs' r' rd ef rs => ?_
  subst hMe
  subst hO
  have cond : i ∉ C.O ∨ np ≤ i := by
    simp only [Bool.or_eq_true, Bool.not_eq_true', List.contains_eq_mem, decide_eq_true_eq, decide_eq_false_iff_not] at hM
    exact hM
  obtain ⟨Fs2, r2, _⟩ := r'.put (i := i) rd (Into.of r' (fun a _ h1 => r.up a h1) rs rd.domL (.inr rfl) rfl (fun a h1 h2 => by
    cases e : C.Pr a with
    | none => exact h1 e
    | some u =>
      rw [r.pr a u e] at h2
      cases h2)) (fun hi hlt => by
    rcases cond with z | z
    · exact absurd (r'.mo i hi) z
    · omega)
  exact q _ H' Fs2 r2
end
end VL

/-! The value layer, part S: what is walked. -/
namespace VL
open PySem PySem.Spec L2 D
section
variable {X : Cx} {tg : Expr}
/-- a list or a tuple -/
def iSeq (K : PySem.W.Frag) (tl : TE) : TI := fun σ H R => tl σ H fun x H1 => ∃ a, x = .ref a ∧ ((∃ xs, SqL K H1 a xs ∧ R (Itl K a) H1) ∨ (∃ xs, SqT K H1 a xs ∧ R (Itt K a) H1))
theorem pi_seq {l : Expr} {tl : TE} (hl : PE X l tl) : PI X tg l (iSeq X.K tl) := by
  refine ⟨fun pins s σ H R I h => ?_⟩
  refine thn (hl.run pins s σ H _ I h) fun v s1 ⟨x, H1, I1, r1, q1⟩ => ?_
  obtain ⟨a, e, q1⟩ := q1
  subst e
  cases r1
  rcases q1 with ⟨xs, hq, q⟩ | ⟨xs, hq, q⟩
  · obtain ⟨its, rv, p, hz⟩ := I1.list hq
    refine wpAny_pyIter_list p.isList ?_
    refine ⟨s1.heap.objs.size, [s1.heap.objs.size], _, _, H1, rfl, I1.kept (t' := s1.toks) fun b o e => Heap.get?_push_of_some _ e, turn_list a _, ⟨_, Heap.get?_push_size _ rfl, rfl, rfl⟩, fun b hb => ?_, q⟩
    have e : b = s1.heap.objs.size := by simpa using hb
    subst e
    exact I1.fpOk (Nat.le_refl _) (I1.hok.fresh (Nat.le_refl _))
  · obtain ⟨its, rv, p, hz⟩ := I1.tuple hq
    refine wpAny_pyIter_tuple (show s1.heap.IsTuple a its.toArray from p) ?_
    refine ⟨s1.heap.objs.size, [s1.heap.objs.size], _, _, H1, rfl, I1.kept (t' := s1.toks) fun b o e => Heap.get?_push_of_some _ e, turn_tuple a _, ⟨_, Heap.get?_push_size _ rfl, rfl, rfl⟩, fun b hb => ?_, q⟩
    have e : b = s1.heap.objs.size := by simpa using hb
    subst e
    exact I1.fpOk (Nat.le_refl _) (I1.hok.fresh (Nat.le_refl _))
end
def itemsOf : D → Option (List D)
  | .lst ds => some ds
  | .tup ds => some ds
  | _ => none
def gSeq (g : DSt → Option (D × DSt)) : DSt → Option (List D × DSt) := fun st => (g st).bind fun p => (itemsOf p.1).map fun ds => (ds, p.2)
section
variable {ι : Type} {G : Gd} {Xs : ι → Cx} {M T S : List Nat} {o : Bool} {tg e a b c : Expr} {g : DSt → Option (D × DSt)} {gs : DSt → Option (List D × DSt)} {pos p : Pos}
/-- what is protected stands -/
theorem prot_off {C : Act} {Fs : Nat → List Addr} {H H2 : Hp} (h : ∀ a o, prot M Fs H a = some o → H2 a = some o) : Off (fun a => ∃ i ∈ M, a ∈ Fs i) H H2 := fun a o e n => h a o (by
  rw [prot_of fun i hi z => n ⟨i, hi, z⟩]
  exact e)
/-- the items of a sequence that stands apart from the places -/
theorem walk_items {C : Act} {Fs : Nat → List Addr} {σ : St} {H : Hp} {st : DSt} {J : It} {ds : List D} {vs : List V} {F : List Addr} (r : SR G C Fs σ H st) (rl : RepL G H ds vs F) (apart : ∀ i ∈ M, ∀ a ∈ F, a ∉ Fs i)
    (go : ∀ i H2 v, (∀ a o, prot M Fs H a = some o → H2 a = some o) → vs[i]? = some v → J.go i H2 ∧ ∀ x H', J.yld i H2 x H' → H' = H2 ∧ x = v) (stop : ∀ i H2, (∀ a o, prot M Fs H a = some o → H2 a = some o) → vs.length ≤ i → J.stop i H2) : Walk G J ds (prot M Fs H) := by
  refine ⟨fun i H2 d hP hd => ?_, fun i H2 hP hi => stop i H2 hP (by rw [← rl.length]; exact hi)⟩
  obtain ⟨v, F', hv, rd, sub⟩ := rl.get hd
  obtain ⟨h1, h2⟩ := go i H2 v hP hv
  refine ⟨h1, fun x H' hy => ?_⟩
  obtain ⟨rfl, rfl⟩ := h2 x H' hy
  refine ⟨fun _ _ z => z, F', rd.off (W := fun a => ∃ i ∈ M, a ∈ Fs i) (fun a ⟨i, _, h⟩ => r.cell h) (prot_off (C := C) hP) fun a h ⟨i, hi, z⟩ => apart i hi a (sub a h) z, fun a h => ?_⟩
  rw [prot_of fun i hi z => apart i hi a (sub a h) z]
  exact rd.dom h
theorem di_seq (h : EV G Xs M T [] o e g) (hK : ∀ j, (Xs j).K = G.K := by intro _; rfl) : DI G Xs M T tg e (gSeq g) := by
  obtain ⟨t, p, k⟩ := h
  refine ⟨iSeq G.K t, fun j => by have z := pi_seq (tg := tg) (p j); rw [hK j] at z; exact z, fun C Fs σ H st ds st' R hM r hg q => ?_⟩
  unfold gSeq at hg
  obtain ⟨⟨d, s1⟩, e1, hg⟩ := Option.bind_eq_some_iff.mp hg
  obtain ⟨ds', e2, hg⟩ := Option.map_eq_some_iff.mp hg
  cases hg
  refine k C Fs σ H st d _ _ hM r e1 fun v H1 F Fs1 r1 rd ef rs => ?_
  have apart : ∀ i ∈ M, ∀ a ∈ F, a ∉ Fs1 i := fun i hi a h => rs.sh i hi (fun z => nomatch z) a h
  cases d with
  | lst xs =>
    cases e2
    cases rd with
    | lst h1 rl =>
      rename_i a vs F0
      refine ⟨a, rfl, .inl ⟨vs, SqL.of h1, q _ H1 Fs1 r1 ef (walk_items r1 rl (fun i hi b hb => apart i hi b (List.mem_cons_of_mem _ hb)) (fun i H2 v hP hv => ?_) fun i H2 hP hi => ?_)⟩⟩
      · have ha : H2 a = some (.lst vs) := hP a _ (by rw [prot_of fun i hi z => apart i hi a List.mem_cons_self z]; exact h1)
        refine ⟨⟨vs, v, SqL.of ha, hv⟩, fun x H' y => ⟨y.1, ?_⟩⟩
        have := y.2 vs (SqL.of ha)
        rw [hv] at this
        cases this
        rfl
      · have ha : H2 a = some (.lst vs) := hP a _ (by rw [prot_of fun i hi z => apart i hi a List.mem_cons_self z]; exact h1)
        exact ⟨vs, SqL.of ha, hi⟩
  | tup xs =>
    cases e2
    cases rd with
    | tup h1 rl =>
      rename_i a vs
      have tu : ∀ H2, (∀ a o, prot M Fs1 H1 a = some o → H2 a = some o) → SqT G.K H2 a vs := fun H2 hP => seqT_off (G := G) (W := fun a => ∃ i ∈ M, a ∈ Fs1 i) (fun a ⟨i, _, h⟩ => r1.cell h) (prot_off (C := C) hP) h1
      refine ⟨a, rfl, .inr ⟨vs, h1, q _ H1 Fs1 r1 ef (walk_items r1 rl apart (fun i H2 v hP hv => ?_) fun i H2 hP hi => ⟨vs, tu H2 hP, hi⟩)⟩⟩
      refine ⟨⟨vs, v, tu H2 hP, hv⟩, fun x H' y => ⟨y.1, ?_⟩⟩
      have := y.2 vs (tu H2 hP)
      rw [hv] at this
      cases this
      rfl
  | _ => cases e2

/-! ### ranges -/
def rngD (lo : Int) (n : Nat) : List D := (List.range n).map fun k => .int (lo + (k : Nat))
theorem walk_rng {lo : Int} {n : Nat} {P : Hp} : Walk G (Itr lo n) (rngD lo n) P := by
  refine ⟨fun i H2 d hP hd => ?_, fun i H2 hP hi => ?_⟩
  · have hlt : i < n := by
      have := (List.getElem?_eq_some_iff.mp hd).1
      simpa [rngD] using this
    unfold rngD at hd
    rw [List.getElem?_map, List.getElem?_range hlt] at hd
    cases hd
    refine ⟨hlt, fun x H' y => ?_⟩
    obtain ⟨rfl, rfl⟩ := y
    exact ⟨fun _ _ z => z, [], .int _, fun _ h => nomatch h⟩
  · unfold rngD at hi
    rw [List.length_map, List.length_range] at hi
    exact hi
def bndB (i : Int) : Bool := decide (-4611686018427387904 ≤ i) && decide (i < 4611686018427387904)
theorem bndB_of {i : Int} (h : bndB i = true) : -(2 ^ 62) ≤ i ∧ i < 2 ^ 62 := by
  simp only [bndB, Bool.and_eq_true, decide_eq_true_eq] at h
  exact ⟨by omega, by omega⟩
def fRng1 : List D → Option (List D)
  | [.int n] => if bndB n = true then some (rngD 0 n.toNat) else none
  | _ => none
def fRng2 : List D → Option (List D)
  | [.int i, .int j] => if (bndB i && bndB j) = true then some (rngD i (j - i).toNat) else none
  | _ => none
def gItems (f : List D → Option (List D)) (gs : DSt → Option (List D × DSt)) : DSt → Option (List D × DSt) := fun st => (gs st).bind fun p => (f p.1).map fun ds => (ds, p.2)
theorem gItems_some {f : List D → Option (List D)} {st st' : DSt} {ds : List D} (h : gItems f gs st = some (ds, st')) : ∃ xs, gs st = some (xs, st') ∧ f xs = some ds := by
  unfold gItems at h
  obtain ⟨⟨xs, s1⟩, e1, h⟩ := Option.bind_eq_some_iff.mp h
  obtain ⟨ys, e2, h⟩ := Option.map_eq_some_iff.mp h
  cases h
  exact ⟨xs, e1, e2⟩
theorem di_rng1 (ha : EA G Xs M T S o [a] gs) (hm : ∀ j, (Xs j).mg "range" = none) (hg : ∀ j, Gl (Xs j) "range" := by intro _; rfl) (hs : ∀ j, starEach [a] (Xs j).env = [(false, eval a (Xs j).env)] := by intro _; rfl) : DI G Xs M T tg (.Call (.Name "range" p) [a] [] pos) (gItems fRng1 gs) := by
  obtain ⟨t, pp, k⟩ := ha
  refine ⟨iRng1 t, fun j => pi_range1 (hg j) (hm j) (pp j) (hs j), fun C Fs σ H st ds st' R hM r hgg q => ?_⟩
  obtain ⟨xs, e1, e2⟩ := gItems_some hgg
  refine k C Fs σ H st xs st' _ hM r e1 fun vs H1 F Fs1 r1 rd ef rs => ?_
  match xs, e2, rd with
  | [.int n], e2, rd =>
    have e2' : (if bndB n = true then some (rngD 0 n.toNat) else none) = some ds := e2
    split at e2'
    · rename_i hb
      cases e2'
      obtain ⟨v, rfl, rn⟩ := rd.one_inv
      cases rn
      exact ⟨n, rfl, (bndB_of hb).1, (bndB_of hb).2, q _ H1 Fs1 r1 ef walk_rng⟩
    · cases e2'
theorem di_rng2 (ha : EA G Xs M T S o [a, b] gs) (hm : ∀ j, (Xs j).mg "range" = none) (hg : ∀ j, Gl (Xs j) "range" := by intro _; rfl) (hs : ∀ j, starEach [a, b] (Xs j).env = [(false, eval a (Xs j).env), (false, eval b (Xs j).env)] := by intro _; rfl) (hs2 : ∀ j, starEach [b] (Xs j).env = [(false, eval b (Xs j).env)] := by intro _; rfl) : DI G Xs M T tg (.Call (.Name "range" p) [a, b] [] pos) (gItems fRng2 gs) := by
  obtain ⟨t, pp, k⟩ := ha
  refine ⟨iRng2 t, fun j => pi_range2 (hg j) (hm j) (pp j) (hs j) (hs2 j), fun C Fs σ H st ds st' R hM r hgg q => ?_⟩
  obtain ⟨xs, e1, e2⟩ := gItems_some hgg
  refine k C Fs σ H st xs st' _ hM r e1 fun vs H1 F Fs1 r1 rd ef rs => ?_
  match xs, e2, rd with
  | [.int i, .int n], e2, rd =>
    have e2' : (if (bndB i && bndB n) = true then some (rngD i (n - i).toNat) else none) = some ds := e2
    split at e2'
    · rename_i hb
      rw [Bool.and_eq_true] at hb
      cases e2'
      obtain ⟨v, w, F1, F2, rfl, r2, r3, _⟩ := rd.two_inv
      cases r2
      cases r3
      exact ⟨i, n, rfl, ⟨(bndB_of hb.1).1, (bndB_of hb.1).2, (bndB_of hb.2).1, (bndB_of hb.2).2⟩, q _ H1 Fs1 r1 ef walk_rng⟩
    · cases e2'

/-! ### for x in text -/
def fChars : D → Option (List D)
  | .str x => some (x.cps.toList.map fun c => .str ⟨#[c]⟩)
  | _ => none
def gStr (g : DSt → Option (D × DSt)) : DSt → Option (List D × DSt) := fun st => (g st).bind fun p => (fChars p.1).map fun ds => (ds, p.2)
theorem di_str (h : EV G Xs M T S o e g) : DI G Xs M T tg e (gStr g) := by
  obtain ⟨t, p, k⟩ := h
  refine ⟨iStr t, fun j => pi_str (p j), fun C Fs σ H st ds st' R hM r hg q => ?_⟩
  unfold gStr at hg
  obtain ⟨⟨d, s1⟩, e1, hg⟩ := Option.bind_eq_some_iff.mp hg
  obtain ⟨ds', e2, hg⟩ := Option.map_eq_some_iff.mp hg
  cases hg
  refine k C Fs σ H st d _ _ hM r e1 fun v H1 F Fs1 r1 rd ef rs => ?_
  cases d with
  | str x =>
    cases e2
    cases rd
    refine ⟨x, rfl, q _ H1 Fs1 r1 ef ⟨fun i H2 d hP hd => ?_, fun i H2 hP hi => ?_⟩⟩
    · rw [List.getElem?_map] at hd
      cases z : x.cps.toList[i]? with
      | none =>
        rw [z] at hd
        cases hd
      | some c =>
        rw [z] at hd
        cases hd
        have zc : x.cps[i]? = some c := by rw [← Array.getElem?_toList]; exact z
        refine ⟨(Array.getElem?_eq_some_iff.mp zc).1, fun y H' hy => ?_⟩
        obtain ⟨rfl, c', h1, rfl⟩ := hy
        rw [zc] at h1
        cases h1
        exact ⟨fun _ _ z => z, [], .str _, fun _ h => nomatch h⟩
    · rw [List.length_map, Array.length_toList] at hi
      exact hi
  | _ => cases e2
end
end VL

/-! The value layer, part T: dicts made lists and back, slices, sorted. -/
namespace VL
open PySem PySem.Spec L2 D
section
variable {G : Gd} {H : Hp}
theorem keyRep {d : D} {k : Key} (h : keyOf d = some k) : Rep G H d (kV k) [] := by
  cases d <;> simp [keyOf] at h <;> subst h
  · exact .int _
  · exact .str _
theorem keyReps : ∀ {kvs : List (D × D)} {ps : List (Key × V)}, kvs.map (fun q => keyOf q.1) = ps.map (fun q => some q.1) → RepL G H (kvs.map (·.1)) (ps.map fun q => kV q.1) []
  | [], [], _ => .nil
  | [], _ :: _, h => by simp at h
  | _ :: _, [], h => by simp at h
  | (k, x) :: kvs, (y, w) :: ps, h => by
    simp only [List.map_cons, List.cons.injEq] at h
    exact RepL.cons (F := []) (Fs := []) (keyRep h.1) (keyReps h.2)
end
section
variable {X : Cx} {pins : List (Addr × Obj)} {σ : St} {H : Hp} {s : Shared} {a : Addr} {n : Bool} {kvs : List (D × D)} {F : List Addr}
/-- a dict's entries, whatever its keys -/
theorem dct_raw (I : Inv X pins σ H s) (rd : Rep (gd X) H (.dct n kvs) (.ref a) F) : (a == sysModules) = false ∧ kvs.length ≤ sizeLine ∧ ∃ (es : Array DictEntry) (ep : Nat) (ks vs : List V) (F0 : List Addr), F = a :: F0 ∧ s.heap.DictRaw a es ep ∧ es.size = kvs.length ∧
    RepL (gd X) H (kvs.map (·.1)) ks [] ∧ RepL (gd X) H (kvs.map (·.2)) vs F0 ∧ Vals ks (es.toList.map (·.key)) ∧ Vals vs (es.toList.map (·.val)) := by
  cases rd with
  | dct ha nd hkk rl =>
    rename_i ps F0
    have e1 : kvs.length = ps.length := by
      have := congrArg List.length hkk
      simpa using this
    obtain ⟨z, hd, vs, rel, dd⟩ := dk_rd I.hok (.inl ha)
    obtain ⟨es, ep, h1, h2, h3⟩ := dd.raw
    have l1 : ps.length = vs.length := rel.length
    have at' : ∀ (j : Nat) (en : DictEntry), es.toList[j]? = some en → ∃ k x, vs[j]? = some (k, x) ∧ (mixKind X.prog X.w).is k en.key = true ∧ en.val = x := fun j en he => by
      have hj : j < es.size := by
        have := (List.getElem?_eq_some_iff.mp he).1
        simpa using this
      have hv : vs[j]? = some vs[j] := List.getElem?_eq_getElem (by omega)
      have := h3 j hj _ _ hv
      have ee : es[j] = en := by
        have := (List.getElem?_eq_some_iff.mp he).2
        simpa using this
      rw [ee] at this
      exact ⟨_, _, hv, this.1, this.2⟩
    refine ⟨hd, by omega, es, ep, ps.map fun q => kV q.1, ps.map (·.2), F0, rfl, h1, by omega, keyReps hkk, rl, ?_, ?_⟩
    · refine vals_of_at (by simp only [List.length_map, Array.length_toList]; omega) fun j x u hx hu => ?_
      rw [List.getElem?_map] at hu
      cases he : es.toList[j]? with
      | none =>
        rw [he] at hu
        cases hu
      | some en =>
        rw [he] at hu
        cases hu
        obtain ⟨k, y, g1, g2, g3⟩ := at' j en he
        have e2 : (ps.map (·.1))[j]? = some k := by rw [KV.keys rel, List.getElem?_map, g1] <;> rfl
        have e3 : (ps.map fun q => kV q.1) = (ps.map (·.1)).map kV := by rw [List.map_map] <;> rfl
        rw [e3, List.getElem?_map, e2] at hx
        cases hx
        exact keyIs_rel g2
    · refine vals_of_at (by simp only [List.length_map, Array.length_toList]; omega) fun j x u hx hu => ?_
      rw [List.getElem?_map] at hu hx
      cases he : es.toList[j]? with
      | none =>
        rw [he] at hu
        cases hu
      | some en =>
        rw [he] at hu
        cases hu
        obtain ⟨k, y, g1, g2, g3⟩ := at' j en he
        cases hp : ps[j]? with
        | none =>
          rw [hp] at hx
          cases hx
        | some q =>
          rw [hp] at hx
          cases hx
          obtain ⟨q', hq1, hq2⟩ := LiI.paired_get rel hp
          rw [g1] at hq1
          cases hq1
          show RelV q.2 en.val
          rw [g3]
          exact hq2.2
  | dcn ha nd hkk dp rk rl =>
    rename_i ys F0
    have e1 : kvs.length = ys.length := by
      have := congrArg List.length hkk
      simpa using this
    obtain ⟨hs0, hl, dd⟩ := ndct_at I ha hkk dp rk
    obtain ⟨es, ep, h1, h2, h3⟩ := dd.raw
    rw [List.length_map] at h2
    have at' : ∀ (j : Nat) (en : DictEntry), es.toList[j]? = some en → ∃ y, ys[j]? = some y ∧ en.key = .ref y.2.1 ∧ en.val = y.2.2.1 := fun j en he => by
      have hj : j < es.size := by
        have := (List.getElem?_eq_some_iff.mp he).1
        simpa using this
      obtain ⟨z, g1, g2, g3, _⟩ := h3 j hj
      have ee : es[j] = en := by
        have := (List.getElem?_eq_some_iff.mp he).2
        simpa using this
      rw [List.getElem?_map] at g1
      obtain ⟨y, hy, rfl⟩ := Option.map_eq_some_iff.mp g1
      rw [ee] at g2 g3
      exact ⟨y, hy, g2, g3⟩
    refine ⟨hs0, by omega, es, ep, ys.map fun y => V.ref y.2.1, ys.map (·.2.2.2), F0, rfl, h1, by omega, rk, rl, ?_, ?_⟩
    · refine vals_of_at (by simp only [List.length_map, Array.length_toList]; omega) fun j x u hx hu => ?_
      rw [List.getElem?_map] at hu hx
      cases he : es.toList[j]? with
      | none =>
        rw [he] at hu
        cases hu
      | some en =>
        rw [he] at hu
        cases hu
        obtain ⟨y, g1, g2, g3⟩ := at' j en he
        rw [g1] at hx
        cases hx
        exact g2
    · refine vals_of_at (by simp only [List.length_map, Array.length_toList]; omega) fun j x u hx hu => ?_
      rw [List.getElem?_map] at hu hx
      cases he : es.toList[j]? with
      | none =>
        rw [he] at hu
        cases hu
      | some en =>
        rw [he] at hu
        cases hu
        obtain ⟨y, g1, g2, g3⟩ := at' j en he
        rw [g1] at hx
        cases hx
        show RelV y.2.2.2 en.val
        rw [g3]
        exact (dp y (List.mem_of_getElem? g1)).2
end

/-! ### list(d) -/
def fListD : List D → Option D
  | [.dct _ kvs] => some (.lst (kvs.map (·.1)))
  | _ => none
section
variable {ι : Type} {G : Gd} {Xs : ι → Cx} {M T S : List Nat} {o : Bool}
theorem RepL.immOf {H : Hp} : ∀ {ds : List D} {vs : List V}, RepL G H ds vs [] → True := fun _ => trivial
theorem cb_listD (ov : Ov G Xs) (hc : Hc Xs) : CB G Xs (.type "list") fListD := by
  refine ⟨fun xs H Q => ∃ n kvs F a, xs = [.ref a] ∧ Rep G H (.dct n kvs) (.ref a) F ∧ ∀ ks p, RepL G H (kvs.map (·.1)) ks [] → H p = none → Q (.ref p) (upd H p (.lst ks)), fun j => ?_, fun H ds z vs F Q rd hz fr => ?_⟩
  · intro pins s σ H xs us Q I r h
    obtain ⟨n, kvs, F, a, rfl, rd, q⟩ := h
    obtain ⟨u, rfl, rx⟩ := vals1 r
    obtain rfl : u = Value.ref a := rx
    rw [← ov j] at rd
    obtain ⟨hs0, hl, es, ep, ks, vs, F0, rfl, ⟨o, ho, hx, hdt⟩, hz, rk, rl, vk, vv⟩ := dct_raw I rd
    refine PySem.W.kdl_call (kdl_raw hs0 hx hdt) (I.ok.hd (hc j)) ho (by omega) fun h' tk acc' c' kp e it => ?_
    have ea : acc'.toList = es.toList.map (·.key) := by
      have hl' : acc'.toList.length = es.size := by rw [Array.length_toList, it.1]
      apply List.ext_getElem?
      intro j
      rw [List.getElem?_map]
      cases hj : acc'.toList[j]? with
      | none =>
        have h1 := List.getElem?_eq_none_iff.mp hj
        rw [List.getElem?_eq_none (by rw [Array.length_toList]; omega)]
        all_goals rfl
      | some v =>
        obtain ⟨en, hen, hv⟩ := it.2 j v (by rw [← Array.getElem?_toList]; exact hj)
        rw [Array.getElem?_toList, hen, hv]
        all_goals rfl
    have hzz : ks.length ≤ sizeLine := by
      have := rk.length
      rw [List.length_map] at this
      omega
    rw [ov j] at rk
    refine ⟨.ref s.heap.objs.size, _, I.laid (t' := tk) (o := .lst ks) kp (Nat.le_refl _) ?_, rfl, q ks _ rk (I.hok.fresh (Nat.le_refl _))⟩
    exact ⟨hzz, acc'.toList, c', by rw [ea]; exact vk, by rw [Array.toArray_toList]; exact e⟩
  · match ds, hz with
    | [.dct n kvs], hz =>
      cases hz
      obtain ⟨v, rfl, r⟩ := rd.one_inv
      obtain ⟨a, F0, rfl, rfl⟩ := r.dctv
      refine ⟨n, kvs, _, a, rfl, r, fun ks p rk hp => ?_⟩
      have sm : Same H (upd H p (.lst ks)) := same_upd hp
      exact fr (.ref p) _ [p] sm (.lst upd_same (rk.same sm)) (by simp) fun b hb => by
        cases List.mem_singleton.mp hb
        exact hp

/-! ### list(d.items()) -/
def putV : Hp → List Addr → List (V × V) → Hp
  | H, a :: as, p :: kvs => putV (upd H a (.tup [p.1, p.2])) as kvs
  | H, _, _ => H
theorem putV_off {b : Addr} : ∀ (as : List Addr) (kvs : List (V × V)) (H : Hp), b ∉ as → putV H as kvs b = H b
  | [], _, _, _ => rfl
  | _ :: _, [], _, _ => rfl
  | a :: as, p :: kvs, H, h => by
    show putV (upd H a (.tup [p.1, p.2])) as kvs b = H b
    rw [putV_off as kvs _ (fun z => h (List.mem_cons_of_mem _ z)), upd_ne (fun z => h (by rw [z]; exact List.mem_cons_self))]
theorem putV_at : ∀ (as : List Addr) (kvs : List (V × V)) (H : Hp), as.length = kvs.length → as.Nodup → Paired (fun (t : Addr) (p : V × V) => putV H as kvs t = some (.tup [p.1, p.2])) as kvs
  | [], [], _, _, _ => .nil
  | [], _ :: _, _, h, _ => by cases h
  | _ :: _, [], _, h, _ => by cases h
  | a :: as, p :: kvs, H, h, hn => by
    have hn' := List.nodup_cons.mp hn
    have ih := putV_at as kvs (upd H a (.tup [p.1, p.2])) (Nat.succ.inj h) hn'.2
    refine .cons ?_ ih
    show putV (upd H a (.tup [p.1, p.2])) as kvs a = some (.tup [p.1, p.2])
    rw [putV_off as kvs _ hn'.1, upd_same]
theorem items_laidV {X : Cx} {pins : List (Addr × Obj)} {σ : L2.St} {H : Hp} {s : Shared} {h' : Heap} {tk : Nat} {ks vs : List V} {es : Array DictEntry} {acc : Array Value} {c : Nat} {as : List Addr} (I : Inv X pins σ H s) (hz : ks.length ≤ sizeLine) (hkl : ks.length = vs.length) (vk : Vals ks (es.toList.map (·.key))) (vv : Vals vs (es.toList.map (·.val)))
    (hk : ∀ b o, s.heap.get? b = some o → h'.get? b = some o) (hS : h'.get? s.heap.objs.size = some { cls := .type "list", dict := none, data := .seq acc c, slots := #[] }) (hl : as.length = es.size) (hG : PySem.W.DilG es s.heap.objs.size h' as) (hacc : acc.toList = as.map Value.ref) :
    ∃ H' : Hp, (∀ b o, H b = some o → H' b = some o) ∧ H s.heap.objs.size = none ∧ H' s.heap.objs.size = some (.lst (as.map V.ref)) ∧ Paired (fun (t : Addr) (q : V × V) => H' t = some (.tup [q.1, q.2])) as (ks.zip vs) ∧ Inv X pins σ H' { s with heap := h', toks := tk } := by
  have lk : ks.length = es.size := by
    have := vk.length
    rw [List.length_map, Array.length_toList] at this
    exact this
  have lz : (ks.zip vs).length = es.size := by rw [List.length_zip]; omega
  have hSn : s.heap.objs.size ∉ as := fun z => Nat.lt_irrefl _ (hG.above _ z)
  have nd : as.Nodup := List.Pairwise.imp (fun {a b} (h : a < b) => Nat.ne_of_lt h) hG.rise
  have new : ∀ t ∈ as, H t = none := fun t ht => I.hok.fresh (Nat.le_of_lt (hG.above t ht))
  have newS : H s.heap.objs.size = none := I.hok.fresh (Nat.le_refl _)
  have atP := putV_at as (ks.zip vs) (upd H s.heap.objs.size (.lst (as.map V.ref))) (by omega) nd
  have off : ∀ b, b ∉ as → b ≠ s.heap.objs.size → putV (upd H s.heap.objs.size (.lst (as.map V.ref))) as (ks.zip vs) b = H b := fun b h1 h2 => by rw [putV_off as _ _ h1, upd_ne h2]
  have low : ∀ b o, s.heap.get? b = some o → b ∉ as ∧ b ≠ s.heap.objs.size := fun b o e => ⟨fun z => absurd (Heap.lt_size e) (Nat.not_lt.mpr (Nat.le_of_lt (hG.above b z))), Nat.ne_of_lt (Heap.lt_size e)⟩
  have kp : ∀ b u, H b = some u → (putV (upd H s.heap.objs.size (.lst (as.map V.ref))) as (ks.zip vs)) b = some u := fun b u e => by
    rw [off b (fun z => by rw [new b z] at e; cases e) (fun z => by rw [z, newS] at e; cases e)]
    exact e
  have eS : putV (upd H s.heap.objs.size (.lst (as.map V.ref))) as (ks.zip vs) s.heap.objs.size = some (.lst (as.map V.ref)) := by rw [putV_off as _ _ hSn, upd_same]
  refine ⟨putV (upd H s.heap.objs.size (.lst (as.map V.ref))) as (ks.zip vs), kp, newS, eS, atP, ?_⟩
  refine I.call' (ch := []) rfl ⟨fun b o q _ _ _ => hk b o q, fun b o q _ _ _ => ⟨o.slots, hk b o q⟩, fun b o q n _ => ?_, fun b o q _ => ⟨o, hk b o q⟩, fun b xs q => kp b _ q, fun b o u q => kp b _ q, fun b ps q => ⟨#[], by rw [kp b _ q]; simp⟩⟩ (fun b u q => ?_) I.bare fun b z => by simp at z
  · obtain ⟨z1, z2⟩ := low b o q
    rw [off b z1 z2]
    exact n
  · by_cases hb : b ∈ as
    · obtain ⟨j, pk, e1, e2, e3⟩ := LiI.paired_ix atP hb
      rw [e3] at q
      cases q
      obtain ⟨hj, f3⟩ := hG.pairs j b e1
      rw [List.getElem?_zip_eq_some] at e2
      obtain ⟨k1, k2⟩ := e2
      have ee : es.toList[j]? = some es[j] := by rw [Array.getElem?_toList, Array.getElem?_eq_getElem hj]
      obtain ⟨u1, g1, g2⟩ := LiI.paired_get vk k1
      obtain ⟨u2, g3, g4⟩ := LiI.paired_get vv k2
      rw [List.getElem?_map, ee] at g1 g3
      cases g1
      cases g3
      exact ⟨by show 2 ≤ sizeLine; decide, [es[j].key, es[j].val], .cons g2 (.cons g4 .nil), ⟨_, f3, rfl, _, rfl⟩⟩
    · by_cases hb2 : b = s.heap.objs.size
      · rw [hb2] at q ⊢
        rw [eS] at q
        cases q
        refine ⟨by rw [List.length_map]; omega, acc.toList, c, by rw [hacc]; exact LiI.vals_refs as, ?_⟩
        rw [Array.toArray_toList]
        exact hS
      · rw [off b hb hb2] at q
        exact (I.hok b u q).stay (fun d v _ y => hk d v y) (fun d y => kp d _ y) fun d xs y => kp d _ y
def tListIt (G : Gd) (te : TE) : TE := fun σ H Q => te σ H fun x H1 => ∃ n kvs F a, x = .ref a ∧ Rep G H1 (.dct n kvs) (.ref a) F ∧ ∀ (ks vs : List V) (F0 : List Addr) (H' : Hp) (p : Addr) (ts : List Addr), RepL G H1 (kvs.map (·.1)) ks [] → RepL G H1 (kvs.map (·.2)) vs F0 → Same H1 H' → H1 p = none → H' p = some (.lst (ts.map V.ref)) →
  Paired (fun (t : Addr) (q : V × V) => H' t = some (.tup [q.1, q.2])) ts (ks.zip vs) → Q (.ref p) H'
theorem pe_listIt {X : Cx} {e : Expr} {te : TE} {p apos cpos pos : Pos} (hc : X.calm = true) (he : PE X e te) (hg : Gl X "list") (hm : X.mg "list" = none) (hv : bootBuiltins "list" = some (.type "list")) (hbase : attributeBase e "items" X.env (eval e X.env) = eval e X.env := by rfl) (hline : (apos.endLine == cpos.line) = true := by rfl)
    (hs : starEach [.Call (.Attribute e "items" apos) [] [] cpos] X.env = (false, eval (.Call (.Attribute e "items" apos) [] [] cpos) X.env) :: starEach [] X.env := by rfl) :
    PE X (.Call (.Name "list" p) [.Call (.Attribute e "items" apos) [] [] cpos] [] pos) (tListIt (gd X) te) := by
  refine ⟨fun pins s σ H Q I hq => ?_⟩
  refine wpAny_Call_Name_kw (ld_blt I hg hm hv ?_)
  refine PyProof.Rows.callWith_type1 ?_ hs rfl
  rw [hs]
  show wpAny _ _ (spliced ((false, eval (.Call (.Attribute e "items" apos) [] [] cpos) X.env) :: backTo pos (starEach [] X.env))) _ _ s
  refine Calls.spliced_cons ?_
  refine wpAny_Call_method (T := "dict") (id := "dict.items") hbase rfl hline F.plainAttrs_dict F.slot_dict_items F.type_dict_items (thn (he.run pins s σ H _ I hq) fun u s1 ⟨x, H1, I1, rx, n, kvs, F, a, ex, rd, q⟩ => ?_)
  subst ex
  obtain rfl : u = Value.ref a := rx
  obtain ⟨hs0, hl, es, ep, ks, vs, F0, rfl, hraw, hz, rk, rl, vk, vv⟩ := dct_raw I1 rd
  have I2 : Inv X pins σ H1 { s1 with heap := s1.heap.push { cls := .type "dict_items", data := .fields #[.ref a] } } := I1.kept (t' := s1.toks) fun b ob q => Heap.get?_push_of_some _ q
  refine ⟨hraw.typeIs, fun b z => ?_, ?_⟩
  · cases z
    obtain ⟨o, ho, hc, _⟩ := hraw
    exact ⟨o, ho, hc.2.1⟩
  show wpAny _ _ (callWith cpos (.builtin "dict.items") [.ref a] [] []) _ X.xe s1
  refine method_meetsIn F.slot_dict_items F.entry_dict_items rfl (PySem.evalArgs_none ⟨rfl, hraw.typeIs, F.args_dict_items_1 _, _, meets_dict_items_raw a hs0, ⟨es, ep, hraw⟩, ?_⟩)
  refine Calls.spliced_nil ?_
  refine PySem.W.dil_call (I1.ok.hd hc) (r := s1.heap.objs.size) ⟨_, Heap.get?_push_size _ rfl, rfl, rfl⟩ (hraw.at fun o e => Heap.get?_push_of_some _ e) (by omega) fun h' tk acc c as hk hS hl2 hG hacc => ?_
  have hkl : ks.length = vs.length := by
    have h1 := rk.length
    have h2 := rl.length
    rw [List.length_map] at h1 h2
    omega
  have hkz : ks.length ≤ sizeLine := by
    have h1 := rk.length
    rw [List.length_map] at h1
    omega
  obtain ⟨H', k1, k2, k3, k4, J⟩ := items_laidV (tk := tk) I2 hkz hkl vk vv hk hS hl2 hG hacc
  exact ⟨.ref _, H', J, rfl, q ks vs F0 H' _ as rk rl k1 k2 k3 k4⟩
end
end VL

/-! The value layer, part U: list(d.items()), dict(pairs), slices, sorted. -/
namespace VL
open PySem PySem.Spec L2 D
section
variable {ι : Type} {G : Gd} {Xs : ι → Cx} {M T S : List Nat} {o : Bool} {e a b : Expr} {p pos apos cpos : Pos} {ge : DSt → Option (D × DSt)}
def fItems : D → Option D
  | .dct _ kvs => if immL (kvs.map (·.2)) = true then some (.lst (kvs.map fun q => .tup [q.1, q.2])) else none
  | _ => none
theorem pairs_rep {H H' : Hp} (sm : Same H H') : ∀ {kvs : List (D × D)} {ks vs : List V} {ts : List Addr}, RepL G H (kvs.map (·.1)) ks [] → RepL G H (kvs.map (·.2)) vs [] → Paired (fun (t : Addr) (q : V × V) => H' t = some (.tup [q.1, q.2])) ts (ks.zip vs) → RepL G H' (kvs.map fun q => .tup [q.1, q.2]) (ts.map V.ref) []
  | [], ks, vs, ts, rk, rv, h => by
    cases rk
    cases h
    exact .nil
  | (k, x) :: kvs, [], vs, ts, rk, rv, h => by cases rk
  | (k, x) :: kvs, y :: ks, [], ts, rk, rv, h => by cases rv
  | (k, x) :: kvs, y :: ks, w :: vs, ts, rk, rv, h => by
    cases h with
    | cons h1 h2 =>
      obtain ⟨a1, a2⟩ := RepL.nil2 rk
      obtain ⟨b1, b2⟩ := RepL.nil2 rv
      exact RepL.cons (F := []) (Fs := []) (.tup (SqT.of h1) (RepL.cons (F := []) (Fs := []) (a1.same sm) (RepL.cons (F := []) (Fs := []) (b1.same sm) .nil))) (pairs_rep sm a2 b2 h2)
theorem ev_listIt (ov : Ov G Xs) (hc : Hc Xs) (he : EV G Xs M T S o e ge) (hm : ∀ j, (Xs j).mg "list" = none) (hg : ∀ j, Gl (Xs j) "list" := by intro _; rfl) (hv : bootBuiltins "list" = some (.type "list") := by decide +kernel)
    (hbase : ∀ j, attributeBase e "items" (Xs j).env (eval e (Xs j).env) = eval e (Xs j).env := by intro _; rfl) (hline : (apos.endLine == cpos.line) = true := by rfl)
    (hs : ∀ j, starEach [.Call (.Attribute e "items" apos) [] [] cpos] (Xs j).env = (false, eval (.Call (.Attribute e "items" apos) [] [] cpos) (Xs j).env) :: starEach [] (Xs j).env := by intro _; rfl) :
    EV G Xs M T [] true (.Call (.Name "list" p) [.Call (.Attribute e "items" apos) [] [] cpos] [] pos) (g1 fItems ge) := by
  obtain ⟨t, pp, k⟩ := he
  refine ⟨tListIt G t, fun j => by have z := pe_listIt (p := p) (pos := pos) (apos := apos) (cpos := cpos) (hc j) (pp j) (hg j) (hm j) hv (hbase j) hline (hs j); rw [ov j] at z; exact z, fun C Fs σ H st d st' Q hM r hgg q => ?_⟩
  obtain ⟨x, e1, e2⟩ := g1_some hgg
  refine k C Fs σ H st x st' _ hM r e1 fun v H1 F Fs1 r1 rd ef rs => ?_
  cases x with
  | dct n kvs =>
    have e2' : (if immL (kvs.map (·.2)) = true then some (D.lst (kvs.map fun q => .tup [q.1, q.2])) else none) = some d := e2
    split at e2'
    · rename_i hi
      cases e2'
      obtain ⟨a, F0, rfl, rfl⟩ := rd.dctv
      refine ⟨n, kvs, _, a, rfl, rd, fun ks vs F1 H' p' ts rk rv sm hp hl hpr => ?_⟩
      have := rv.imm hi
      subst this
      have ef2 := ef.trans (Eff.pure (st := st') (Fs := Fs1) sm [])
      rw [List.append_nil] at ef2
      have nw : ∀ b ∈ [p'], H1 b = none := fun b hb => by
        cases List.mem_singleton.mp hb
        exact hp
      exact q (.ref p') H' [p'] Fs1 (r1.same sm) (.lst hl (pairs_rep sm rk rv hpr)) ef2 ⟨fun i hi hs b h w => r1.dom w (nw b h), fun _ => by simp, fun _ b h => ef.dom b (nw b h), fun _ i b h w => r1.dom w (nw b h)⟩
    · cases e2'
  | _ => cases e2

/-! ### dict(pairs) -/
def pairOf : D → Option (D × D)
  | .tup [k, x] => some (k, x)
  | _ => none
def pairsOf : List D → Option (List (D × D))
  | [] => some []
  | d :: ds => match pairOf d, pairsOf ds with
    | some q, some r => some (q :: r)
    | _, _ => none
def fDict (n : Bool) : List D → Option D
  | [.lst ds] => match pairsOf ds with
    | some kvs => if ((kvs.all fun q => keyB n q.1) && immL (kvs.map (·.2))) = true then some (.dct n (aPuts [] kvs)) else none
    | none => none
  | _ => none
theorem pairs_of_rep {H : Hp} : ∀ {ds : List D} {vs : List V} {F : List Addr} {kvs : List (D × D)}, RepL G H ds vs F → pairsOf ds = some kvs → immL (kvs.map (·.2)) = true → (kvs.all fun q => (q.1).imm) = true → ∃ (ts : List Addr) (ks ws : List V), vs = ts.map V.ref ∧ Paired (fun t q => SqT G.K H t [q.1, q.2]) ts (ks.zip ws) ∧ ks.length = ts.length ∧ ws.length = ts.length ∧ RepL G H (kvs.map (·.1)) ks [] ∧ RepL G H (kvs.map (·.2)) ws []
  | _, _, _, kvs, .nil, h, _, _ => by
    simp [pairsOf] at h
    subst h
    exact ⟨[], [], [], rfl, .nil, rfl, rfl, .nil, .nil⟩
  | d :: ds, _, _, kvs, .cons r rs, h, hi, hki => by
    unfold pairsOf at h
    split at h
    · rename_i q rr e1 e2
      cases h
      rw [List.map_cons, D.immL, Bool.and_eq_true] at hi
      rw [List.all_cons, Bool.and_eq_true] at hki
      obtain ⟨ts, ks, ws, h1, h2, h3, h4, h5, h6⟩ := pairs_of_rep rs e2 hi.2 hki.2
      cases d with
      | tup items =>
        have e1' : pairOf (.tup items) = some q := e1
        unfold pairOf at e1'
        split at e1'
        · rename_i k x heq
          cases heq
          cases e1'
          cases r with
          | tup hs rl =>
            obtain ⟨v1, w1, F1, F2, rfl, r1, r2, _⟩ := rl.two_inv
            have := r1.imm hki.1
            subst this
            have := r2.imm hi.1
            subst this
            exact ⟨_ :: ts, v1 :: ks, w1 :: ws, by rw [h1] <;> rfl, .cons hs h2, by rw [List.length_cons, List.length_cons, h3], by rw [List.length_cons, List.length_cons, h4], RepL.cons (F := []) (Fs := []) r1 h5, RepL.cons (F := []) (Fs := []) r2 h6⟩
        · cases e1'
      | _ => cases e1
    · cases h
theorem all_imm {n : Bool} : ∀ {kvs : List (D × D)}, (kvs.all fun q => keyB n q.1) = true → (kvs.all fun q => (q.1).imm) = true := fun {kvs} h => by
  rw [List.all_eq_true] at h ⊢
  exact fun q hq => keyB_imm (h q hq)
theorem refs_atL : ∀ {ps : List Addr} {us : List Value}, Vals (ps.map V.ref) us → us = ps.map Value.ref := fun r => refs_at r
theorem dict_core {X : Cx} (hc : X.calm = true) (hu : X.A.units + 80 < cLine) (n : Bool) : CallR X (.type "dict") (fun xs H Q => ∃ (a : Addr) (ts : List Addr) (ks ws : List V) (kvs : List (D × D)), xs = [.ref a] ∧ SqL X.K H a (ts.map V.ref) ∧ Paired (fun t q => SqT X.K H t [q.1, q.2]) ts (ks.zip ws) ∧ ks.length = ts.length ∧ ws.length = ts.length ∧
    RepL (gd X) H (kvs.map (·.1)) ks [] ∧ RepL (gd X) H (kvs.map (·.2)) ws [] ∧ (kvs.all fun q => keyB n q.1) = true ∧ ∀ p u, H p = none → Rep (gd X) (upd H p u) (.dct n (aPuts [] kvs)) (.ref p) [p] → Q (.ref p) (upd H p u)) := by
  intro pins s σ H xs us Q I r h
  obtain ⟨a, ts, ks, ws, kvs, rfl, hs, hp, hk, hw, rk, rw_, hb, q⟩ := h
  have zlen : (ks.zip ws).length = ts.length := by rw [List.length_zip]; omega
  cases n with
  | false =>
    obtain ⟨kk, ep, ek⟩ := keys_flat (ps := ks.zip ws) hb (by rw [List.map_fst_zip (by omega)]; exact rk)
    have hp' : Paired (fun p kv => SqT X.K H p [kV kv.1, kv.2]) ts kk := by
      rw [ep] at hp
      have aux : ∀ {l : List (Key × V)} {ts : List Addr}, Paired (fun t (q : V × V) => SqT X.K H t [q.1, q.2]) ts (l.map fun kv => (kV kv.1, kv.2)) → Paired (fun p kv => SqT X.K H p [kV kv.1, kv.2]) ts l := by
        intro l
        induction l with
        | nil =>
          intro ts h
          cases h
          exact .nil
        | cons x l ih =>
          intro ts h
          rw [List.map_cons] at h
          cases h with
          | cons h1 h2 => exact .cons h1 (ih h2)
      exact aux hp
    refine call_dictP hc pins s σ H _ us Q I r ⟨a, ts, kk, rfl, hs, hp', fun p hpn => ?_⟩
    have ws_eq : ws = kk.map (·.2) := by
      have := congrArg (List.map (·.2)) ep
      rw [List.map_snd_zip (by omega), List.map_map] at this
      exact this
    obtain ⟨j1, F2, j2, j3, j4⟩ := puts_both (kvs := []) (ps := []) (F := []) keyOf_inj rfl .nil ek (repL_eq rw_ ws_eq) List.nodup_nil List.nodup_nil fun _ z => nomatch z
    have e2 : F2 = [] := List.eq_nil_iff_forall_not_mem.mpr fun x hx => by rcases j4 x hx with z | z <;> cases z
    subst e2
    exact q p _ hpn (.dct (ps := aPuts [] kk) (by rw [upd_same, mergeK_aPuts (kvs := []) List.nodup_nil]) (aPuts_nodup List.nodup_nil) j1 (j2.same (same_upd hpn)))
  | true =>
    obtain ⟨u, rfl, rx⟩ := vals1 r
    obtain rfl : u = Value.ref a := rx
    obtain ⟨its, rv, ⟨o, m, ho, hcl, hd, hdat⟩, hz⟩ := I.list hs
    have ei := refs_at rv
    subst ei
    rw [List.length_map] at hz
    -- the machine's pairs
    have ex : ∀ {ts : List Addr} {l : List (V × V)}, Paired (fun t (q : V × V) => SqT X.K H t [q.1, q.2]) ts l → ∃ wps : List (Value × Value), VV l wps ∧ wps.length = ts.length ∧ ∀ (j : Nat) k v, wps[j]? = some (k, v) → ∃ t, ts[j]? = some t ∧ PairAt s.heap t k v := by
      intro ts l hh
      induction hh with
      | nil => exact ⟨[], .nil, rfl, fun j k v e => by simp at e⟩
      | @cons t q ts l h1 h2 ih =>
        obtain ⟨wps, g1, g2, g3⟩ := ih
        obtain ⟨its, rv, ht, _⟩ := I.tuple h1
        obtain ⟨u1, u2, ei, ru1, ru2⟩ := vals2 rv
        subst ei
        refine ⟨(u1, u2) :: wps, .cons ⟨ru1, ru2⟩ g1, by rw [List.length_cons, List.length_cons, g2], fun j k v e => ?_⟩
        cases j with
        | zero =>
          cases e
          exact ⟨t, rfl, .inl ht⟩
        | succ j =>
          obtain ⟨t', e1, e2⟩ := g3 j k v (by simpa using e)
          exact ⟨t', by simpa using e1, e2⟩
    obtain ⟨wps, g1, g2, g3⟩ := ex hp
    obtain ⟨es, e1, e2, e3, e4⟩ := keys_nest (ps := ks.zip ws) I hb (by rw [List.map_fst_zip (by omega)]; exact rk) g1
    have els : es.length = ts.length := by
      have := congrArg List.length e2
      rw [List.length_map] at this
      omega
    have carr : ∀ {vs : List (Value × Value)} {ps : List (NestedKey × Addr × Value)}, CarriesH (nestedKind X.prog X.w) s.heap vs ps → ∀ (i : Nat) (key v : Value), vs[i]? = some (key, v) → ∃ k b, ps[i]? = some (k, b, v) ∧ key = Value.ref b ∧ (nestedKind X.prog X.w).is s.heap k b := by
      intro vs
      induction vs with
      | nil => intro ps _ i key v h; simp at h
      | cons x vs ih =>
        intro ps hc i key v h
        obtain ⟨x1, x2⟩ := x
        cases ps with
        | nil => exact hc.elim
        | cons y ps =>
          obtain ⟨y1, y2, y3⟩ := y
          cases i with
          | zero =>
            cases h
            exact ⟨y1, y2, by rw [hc.2.1] <;> rfl, hc.1, hc.2.2.1⟩
          | succ i =>
            obtain ⟨k, b, f1, f2⟩ := ih hc.2.2.2 i key v (by simpa using h)
            exact ⟨k, b, by simpa using f1, f2⟩
    have Tsz : ∀ j, j < wps.length → ∃ t, ts[j]? = some t ∧ ts.getD j 0 = t := fun j hj => by
      have hj' : j < ts.length := by omega
      exact ⟨ts[j], List.getElem?_eq_getElem hj', by simp [List.getD, List.getElem?_eq_getElem hj']⟩
    refine call_dict_pairsH (knd := nestedKind X.prog X.w) (ps := es.map unV) (PairArg.list a (ts.map Value.ref).toArray (fun j => ts.getD j 0) wps) (I.ok.hd hc) (show X.A.units + 1 + 1 + 8 < cLine by omega) ⟨⟨o, m, ho, hcl, hd, hdat⟩, by rw [List.size_toArray, List.length_map]; exact g2.symm, fun j k v hj => ?_⟩ ⟨by rw [List.length_map]; omega, fun i key v hv => ?_⟩ (fun h' hk x hx => ?_) (by omega) fun h' tk hd' hk => ?_
    · obtain ⟨t, f1, f2⟩ := g3 j k v hj
      have hjl : j < ts.length := (List.getElem?_eq_some_iff.mp f1).1
      have ft : ts.getD j 0 = t := by simp [List.getD, f1]
      refine ⟨?_, show PairAt s.heap (ts.getD j 0) k v by rw [ft]; exact f2⟩
      show (ts.map Value.ref).toArray[j]? = some (Value.ref (ts.getD j 0))
      rw [List.getElem?_toArray, List.getElem?_map, f1, ft] <;> rfl
    · obtain ⟨k, b, f1, f2, _⟩ := carr e3 i key v hv
      exact ⟨k, b, f1, f2⟩
    · obtain ⟨y, hy, rfl⟩ := List.mem_map.mp hx
      obtain ⟨i, hi⟩ := List.mem_iff_getElem?.mp hy
      have hi' : (es.map unV)[i]? = some (unV y) := by rw [List.getElem?_map, hi] <;> rfl
      have hil : i < wps.length := by
        have := (List.getElem?_eq_some_iff.mp hi).1
        omega
      obtain ⟨k, b, f1, f2, f3⟩ := carr e3 i _ _ (show wps[i]? = some ((wps[i]).1, (wps[i]).2) from List.getElem?_eq_getElem hil)
      rw [hi'] at f1
      have f1' : unV y = (k, b, (wps[i]).2) := Option.some.inj f1
      have k1 : (unV y).1 = k := by rw [f1']
      have k2 : (unV y).2.1 = b := by rw [f1']
      rw [k1, k2]
      exact nestedKind_stays.stays (fun c oc vs nn e1 e2 => hk c oc (fun z => by rw [z] at e1; exact absurd (Heap.lt_size e1) (Nat.lt_irrefl _)) (fun z => nomatch z) e1) f3
    · have hm : (s.heap.objs.size == sysModules) = false := beq_eq_false_iff_ne.mpr (Nat.ne_of_gt I.big)
      have e5 := ePuts_unV (es := es) (ys := []) List.nodup_nil
      rw [← show (ePuts [] es).map unV = storedAllH [] (es.map unV) from e5] at hd'
      have hz2 : (ePuts [] es).length ≤ sizeLine := by
        have h1 := congrArg List.length (ePuts_vals (es := es) (ys := []))
        have h2 := aPuts_length (more := es.map fun y => (y.1, y.2.2.2)) (kvs := ([] : List Entry).map fun y => (y.1, y.2.2.2))
        rw [List.length_map] at h1
        rw [List.length_map, List.length_map, List.length_nil] at h2
        omega
      have hpn : H s.heap.objs.size = none := I.hok.fresh (Nat.le_refl _)
      have sm : Same H (upd H s.heap.objs.size (ndct X.prog X.w s.heap.objs.size ((ePuts [] es).map unV))) := same_upd hpn
      refine ⟨.ref s.heap.objs.size, upd H s.heap.objs.size (ndct X.prog X.w s.heap.objs.size ((ePuts [] es).map unV)), I.laid (t' := tk) (fun b o e => hk b o (fun z => nomatch z) e) (Nat.le_refl _) (ndct_ok hm hz2 (ePuts_nodup List.nodup_nil) hd'), rfl, ?_⟩
      have ek : kvs.map (fun q => nkey q.1) = (es.map fun y => (y.1, y.2.2.2)).map (fun q => some q.1) := by
        rw [e1, List.map_map]
        rfl
      have ws_eq : ws = (es.map fun y => (y.1, y.2.2.2)).map (·.2) := by
        have := congrArg (List.map (·.2)) e2
        rw [List.map_snd_zip (by omega), List.map_map] at this
        rw [List.map_map]
        exact this
      have ks_eq : ks = es.map fun y => V.ref y.2.1 := by
        have := congrArg (List.map (·.1)) e2
        rw [List.map_fst_zip (by omega), List.map_map] at this
        exact this
      obtain ⟨j1, F2, j2, j3, j4⟩ := puts_both (kvs := []) (ps := []) (F := []) nkey_inj rfl .nil ek (repL_eq rw_ ws_eq) List.nodup_nil List.nodup_nil fun _ z => nomatch z
      have e6 : F2 = [] := List.eq_nil_iff_forall_not_mem.mpr fun x hx => by rcases j4 x hx with z | z <;> cases z
      subst e6
      have ev := ePuts_vals (es := es) (ys := [])
      have k1 : (aPuts [] kvs).map (fun q => nkey q.1) = (ePuts [] es).map (fun y => some y.1) := by
        rw [j1, ← show (ePuts [] es).map (fun y => (y.1, y.2.2.2)) = aPuts [] (es.map fun y => (y.1, y.2.2.2)) from ev, List.map_map]
        rfl
      have k2 := j2.same sm
      rw [← show (ePuts [] es).map (fun y => (y.1, y.2.2.2)) = aPuts [] (es.map fun y => (y.1, y.2.2.2)) from ev, List.map_map] at k2
      exact q _ _ hpn (.dcn (ys := ePuts [] es) upd_same (ePuts_nodup List.nodup_nil) k1 (ePuts_mem (P := fun y => y.1.depth ≤ 8 ∧ RelV y.2.2.2 y.2.2.1) (fun y y' h1 h2 hp => by
        obtain ⟨a1, a2, a3, a4⟩ := y
        obtain ⟨b1, b2, b3, b4⟩ := y'
        cases h1
        cases h2
        exact hp) (fun _ h => nomatch h) e4) ((ePuts_keyrep (kvs := []) (ys := []) rfl .nil e1 (repL_eq rk ks_eq)).same sm) k2)
theorem cb_dict (n : Bool) (ov : Ov G Xs) (hc : Hc Xs) (hu : Hu Xs) : CB G Xs (.type "dict") (fDict n) := by
  refine ⟨fun xs H Q => ∃ (a : Addr) (ts : List Addr) (ks ws : List V) (kvs : List (D × D)), xs = [.ref a] ∧ SqL G.K H a (ts.map V.ref) ∧ Paired (fun t q => SqT G.K H t [q.1, q.2]) ts (ks.zip ws) ∧ ks.length = ts.length ∧ ws.length = ts.length ∧
    RepL G H (kvs.map (·.1)) ks [] ∧ RepL G H (kvs.map (·.2)) ws [] ∧ (kvs.all fun q => keyB n q.1) = true ∧ ∀ p u, H p = none → Rep G (upd H p u) (.dct n (aPuts [] kvs)) (.ref p) [p] → Q (.ref p) (upd H p u), fun j => by have := dict_core (hc j) (hu j) n; rw [← ov j]; exact this, fun H ds z vs F Q rd hz fr => ?_⟩
  match ds, hz with
  | [.lst ds], hz =>
    have hz' : (match pairsOf ds with
      | some kvs => if ((kvs.all fun q => keyB n q.1) && immL (kvs.map (·.2))) = true then some (D.dct n (aPuts [] kvs)) else none
      | none => none) = some z := hz
    split at hz'
    · rename_i kvs e
      split at hz'
      · rename_i hc
        rw [Bool.and_eq_true] at hc
        cases hz'
        obtain ⟨v, rfl, r⟩ := rd.one_inv
        cases r with
        | lst h rl =>
          rename_i a vs F0
          obtain ⟨ts, ks, ws, h1, h2, h3, h4, h5, h6⟩ := pairs_of_rep rl e hc.2 (all_imm hc.1)
          subst h1
          exact ⟨a, ts, ks, ws, kvs, rfl, SqL.of h, h2, h3, h4, h5, h6, hc.1, fun p u hp r => fr (.ref p) _ [p] (same_upd hp) r (by simp) fun b hb => by
            cases List.mem_singleton.mp hb
            exact hp⟩
      · cases hz'
    · cases hz'
end
end VL

/-! The value layer, part V: slices, items of sequences, sorted, calls with keywords. -/
namespace VL
open PySem PySem.Spec L2 D
/-! ### slices -/
def EO {ι : Type} (G : Gd) (Xs : ι → Cx) (M T : List Nat) (e : Option Expr) (g : DSt → Option (Option Int × DSt)) : Prop :=
  ∃ t, (∀ j, PO (Xs j) e t) ∧ ∀ (C : Act) (Fs : Nat → List Addr) (σ : St) (H : Hp) (st : DSt) (x : Option Int) (st' : DSt) (Q : Option Int → Hp → Prop), C.M = M → SR G C Fs σ H st → g st = some (x, st') →
    (∀ H' Fs', SR G C Fs' σ H' st' → Eff T Fs H st Fs' H' st' → Q x H') → t σ H Q
def oNone : DSt → Option (Option Int × DSt) := fun st => some (none, st)
def toI : D → Option Int
  | .int i => some i
  | _ => none
def oSome (g : DSt → Option (D × DSt)) : DSt → Option (Option Int × DSt) := fun st => (g st).bind fun p => (toI p.1).map fun i => (some i, p.2)
def cutD (xs : List D) (lo hi : Option Int) : List D := (xs.drop (HT.sIx xs.length 0 lo)).take (HT.sIx xs.length xs.length hi - HT.sIx xs.length 0 lo)
def fSlice : D → Option Int → Option Int → Option D
  | .lst ds, lo, hi => if immL ds = true then some (.lst (cutD ds lo hi)) else none
  | .frl ds, lo, hi => if immL ds = true then some (.lst (cutD ds lo hi)) else none
  | .tup ds, lo, hi => if immL ds = true then some (.tup (cutD ds lo hi)) else none
  | .str z, lo, hi => if lenB z.length = true then some (.str (cutS z lo hi)) else none
  | _, _, _ => none
def gSlice (ga : DSt → Option (D × DSt)) (gl gh : DSt → Option (Option Int × DSt)) : DSt → Option (D × DSt) := fun st => (ga st).bind fun p => (gl p.2).bind fun q => (gh q.2).bind fun r => (fSlice p.1 q.1 r.1).map fun z => (z, r.2)
section
variable {G : Gd} {H : Hp}
theorem RepL.drop : ∀ (n : Nat) {ds : List D} {vs : List V}, RepL G H ds vs [] → RepL G H (ds.drop n) (vs.drop n) []
  | 0, _, _, r => by simpa using r
  | n + 1, [], vs, r => by
    cases r
    exact .nil
  | n + 1, d :: ds, [], r => by cases r
  | n + 1, d :: ds, v :: vs, r => RepL.drop n (RepL.nil2 r).2
theorem RepL.take : ∀ (n : Nat) {ds : List D} {vs : List V}, RepL G H ds vs [] → RepL G H (ds.take n) (vs.take n) []
  | 0, _, _, r => by
    rw [List.take_zero, List.take_zero]
    exact .nil
  | n + 1, [], vs, r => by
    cases r
    exact .nil
  | n + 1, d :: ds, [], r => by cases r
  | n + 1, d :: ds, v :: vs, r => by
    rw [List.take_succ_cons, List.take_succ_cons]
    exact RepL.cons (F := []) (Fs := []) (RepL.nil2 r).1 (RepL.take n (RepL.nil2 r).2)
theorem immL_mem : ∀ {ds : List D}, immL ds = true ↔ ∀ d ∈ ds, d.imm = true
  | [] => by simp [D.immL]
  | d :: ds => by
    rw [D.immL, Bool.and_eq_true, immL_mem (ds := ds)]
    simp
theorem cut_imm {ds : List D} {lo hi : Option Int} (h : immL ds = true) : immL (cutD ds lo hi) = true :=
  immL_mem.mpr fun d hd => immL_mem.mp h d (List.mem_of_mem_drop (List.mem_of_mem_take hd))
theorem RepL.cut {ds : List D} {vs : List V} {F : List Addr} {lo hi : Option Int} (r : RepL G H ds vs F) (h : immL ds = true) : RepL G H (cutD ds lo hi) (cutV vs lo hi) [] := by
  have := r.imm h
  subst this
  unfold cutD cutV
  rw [r.length]
  exact RepL.take _ (RepL.drop _ r)
end
section
variable {ι : Type} {G : Gd} {Xs : ι → Cx} {M T S Ta Sa Tl Th : List Nat} {o oa : Bool} {e a b : Expr} {lo hi : Option Expr} {p pos p2 : Pos} {ga ge : DSt → Option (D × DSt)} {gl gh : DSt → Option (Option Int × DSt)}
theorem eo_none : EO G Xs M [] none oNone := by
  refine ⟨tNoPart, fun _ => po_none, fun C Fs σ H st x st' Q hM r hg q => ?_⟩
  cases hg
  exact q H Fs r (Eff.pure (fun _ _ z => z) [])
theorem eo_some (h : EV G Xs M T S o e ge) : EO G Xs M T (some e) (oSome ge) := by
  obtain ⟨t, pp, k⟩ := h
  refine ⟨tPart t, fun j => po_some (pp j), fun C Fs σ H st x st' Q hM r hg q => ?_⟩
  unfold oSome at hg
  obtain ⟨⟨d, s1⟩, e1, hg⟩ := Option.bind_eq_some_iff.mp hg
  obtain ⟨i, e2, hg⟩ := Option.map_eq_some_iff.mp hg
  cases hg
  refine k C Fs σ H st d _ _ hM r e1 fun v H1 F Fs1 r1 rd ef rs => ?_
  cases d with
  | int n =>
    cases e2
    exact ⟨_, rd.intv, q H1 Fs1 r1 ef⟩
  | _ => cases e2
theorem sIx_rep {ds : List D} {vs : List V} {H : Hp} {F : List Addr} (r : RepL G H ds vs F) : cutD ds = cutD ds := rfl
theorem ev_slice (ov : Ov G Xs) (ha : EV G Xs M Ta Sa oa a ga) (hl : EO G Xs M Tl lo gl) (hh : EO G Xs M Th hi gh) (ok : Ok M Sa (Tl ++ Th) = true := by decide) : EV G Xs M (Ta ++ (Tl ++ Th)) [] true (.Subscript a (.Slice lo hi none p2) pos) (gSlice ga gl gh) := by
  obtain ⟨t1, p1, k1⟩ := ha
  obtain ⟨t2, q2, k2⟩ := hl
  obtain ⟨t3, q3, k3⟩ := hh
  refine ⟨tSl (fun x l u H Q => (rSlL G.K x l u H Q ∨ rSlA G.K x l u H Q) ∨ rSlS x l u H Q) t1 t2 t3, fun j => by have z := pe_slice (p2 := p2) (pos := pos) ((sl_list (X := Xs j)).or sl_tupA |>.or sl_str) (p1 j) (q2 j) (q3 j); rw [← ov j]; exact z, fun C Fs σ H st d st' Q hM r hg q => ?_⟩
  unfold gSlice at hg
  obtain ⟨⟨x, s1⟩, e1, hg⟩ := Option.bind_eq_some_iff.mp hg
  obtain ⟨⟨l, s2⟩, e2, hg⟩ := Option.bind_eq_some_iff.mp hg
  obtain ⟨⟨u, s3⟩, e3, hg⟩ := Option.bind_eq_some_iff.mp hg
  obtain ⟨z, e4, hg⟩ := Option.map_eq_some_iff.mp hg
  cases hg
  refine k1 C Fs σ H st x s1 _ hM r e1 fun v H1 F1 Fs1 r1 rd1 ef1 rs1 => ?_
  refine k2 C Fs1 σ H1 s1 l s2 _ hM r1 e2 fun H2 Fs2 r2 ef2 => ?_
  refine k3 C Fs2 σ H2 s2 u _ _ hM r2 e3 fun H3 Fs3 r3 ef3 => ?_
  have ef23 := ef2.trans ef3
  have rd3 : Rep G H3 x v F1 := rd1.held hM r1 rs1 ef23 (Ok.of ok)
  have ef := ef1.trans ef23
  have fin : Fresh G H3 d Q := fun w H4 F4 sm rd4 nd4 nw4 => by
    have ef4 := ef.trans (Eff.pure (Fs := Fs3) sm [])
    rw [List.append_nil] at ef4
    exact q w H4 F4 Fs3 (r3.same sm) rd4 ef4 ⟨fun i hi hs b h w => r3.dom w (nw4 b h), fun _ => nd4, fun _ b h => ef.dom b (nw4 b h), fun _ i b h w => r3.dom w (nw4 b h)⟩
  cases x with
  | lst ds =>
    have e4' : (if immL ds = true then some (D.lst (cutD ds l u)) else none) = some d := e4
    split at e4'
    · rename_i hi
      cases e4'
      cases rd3 with
      | lst h rl => exact .inl (.inl ⟨_, _, rfl, SqL.of h, fresh_lst fin (rl.cut hi) (cut_imm hi)⟩)
    · cases e4'
  | frl ds =>
    have e4' : (if immL ds = true then some (D.lst (cutD ds l u)) else none) = some d := e4
    split at e4'
    · rename_i hi
      cases e4'
      cases rd3 with
      | frl h rl => exact .inl (.inl ⟨_, _, rfl, h.seq, fresh_lst fin (rl.cut hi) (cut_imm hi)⟩)
    · cases e4'
  | tup ds =>
    have e4' : (if immL ds = true then some (D.tup (cutD ds l u)) else none) = some d := e4
    split at e4'
    · rename_i hi
      cases e4'
      cases rd3 with
      | tup h rl =>
        refine .inl (.inr ⟨_, _, rfl, h, fun hw => ?_, fun _ => fresh_tup fin (rl.cut hi) (cut_imm hi)⟩)
        have e5 : cutD ds l u = ds := by
          unfold cutD
          rw [rl.length, hw.1, hw.2, List.drop_zero, Nat.sub_zero, ← rl.length, List.take_length]
        rw [e5] at fin
        exact fresh_old fin (.tup h rl) hi
    · cases e4'
  | str x =>
    have e4' : (if lenB x.length = true then some (D.str (cutS x l u)) else none) = some d := e4
    split at e4'
    · rename_i hi
      cases e4'
      cases rd3
      exact .inr ⟨x, rfl, line_le (of_decide_eq_true hi), fresh_str fin⟩
    · cases e4'
  | _ => cases e4

/-! ### an item of a sequence -/
def fIx : D → D → Option D
  | .lst ds, .int i => (ixN ds.length i).bind fun j => ds[j]?
  | .tup ds, .int i => (ixN ds.length i).bind fun j => ds[j]?
  | _, _ => none
theorem ix_seqD (ov : Ov G Xs) : IX G Xs fIx := by
  refine ⟨fun x y H Q => rIxL G.K x y H Q ∨ rIxT G.K x y H Q, fun j => by have := (ix_list (X := Xs j)).or ix_tup; rw [← ov j]; exact this, fun H d e z v u F F' Q rd re hz fr => ?_⟩
  cases d with
  | lst ds =>
    cases e with
    | int i =>
      obtain ⟨j, e1, e2⟩ := Option.bind_eq_some_iff.mp hz
      cases re.intv
      cases rd with
      | lst h rl =>
        obtain ⟨w, F2, hw, rw_, sub⟩ := rl.get e2
        exact .inl ⟨_, _, i, w, rfl, rfl, SqL.of h, by unfold atI; rw [← rl.length, e1]; exact hw, fr w H F2 (fun _ _ z => z) rw_ fun a h => List.mem_cons_of_mem _ (sub a h)⟩
    | _ => cases hz
  | tup ds =>
    cases e with
    | int i =>
      obtain ⟨j, e1, e2⟩ := Option.bind_eq_some_iff.mp hz
      cases re.intv
      cases rd with
      | tup h rl =>
        obtain ⟨w, F2, hw, rw_, sub⟩ := rl.get e2
        exact .inr ⟨_, _, i, w, rfl, rfl, h, by unfold atI; rw [← rl.length, e1]; exact hw, fr w H F2 (fun _ _ z => z) rw_ sub⟩
    | _ => cases hz
  | _ => cases hz
end

/-! ### sorted, whole numbers of a list or a tuple -/
section
open PySem.Calls PyProof.Rows SrtO
theorem sorted_seqI {prog : Program} {w : World} {A : Around} {E : Value → Shared → Prop} {s : Shared} {it : Addr} {T : String} {o : Obj} {its : List Value} {n : Nat} {ns : List Int} {Q : Value → Shared → Prop} (hT : T = "list" ∨ T = "tuple") (ho : s.heap.get? it = some o) (hc : o.cls = .type T) (hd : o.data = .seq its.toArray n) (hI : IntsAre its ns) (hz : its.length ≤ sizeLine)
    (h : ∀ (h' : Heap) (p : Addr) (out : List Value) (k : Nat), (∀ b o, s.heap.get? b = some o → h'.get? b = some o) → s.heap.get? p = none → h'.get? p = some (seqObj "list" out.toArray k) → IntsAre out (out.map iv) → (out.map iv).Perm ns → (out.map iv).Pairwise (· ≤ ·) → Q (.ref p) { s with heap := h' }) :
    wpAny (model prog w) A (call (.builtin "sorted") [.ref it]) Q E s := by
  refine Calls.call_function_entry kind_sorted plain_sorted entry_sorted (args_sorted1 _) ?_
  unfold Builtin.«sorted»
  refine wpAny_bind (m := checkCount "sorted" 1 1 _) (wpAny_pure ?_)
  refine wpAny_bind (wpAny_collect_seq it hT ho hc hd (fun h1 hk => ?_) (by rw [List.size_toArray]; exact hz))
  show wpAny _ _ (newList its >>= _) _ _ _
  refine wpAny_bind (wpAny_newList ?_ hz)
  have hoL : (h1.push (seqObj "list" its.toArray 0)).get? h1.objs.size = some (seqObj "list" its.toArray 0) := Heap.get?_push_size _ rfl
  have hle : s.heap.get? h1.objs.size = none := by
    cases q : s.heap.get? h1.objs.size with
    | none => rfl
    | some o => exact absurd (Heap.lt_size (hk _ _ q)) (Nat.lt_irrefl _)
  show wpAny _ _ _ _ _ { s with heap := h1.push (seqObj "list" its.toArray 0) }
  refine wpAny_bind (wpAny_holding (wpAny_call_entry slot_list_sort ⟨_, hoL, rfl⟩ entry_list_sort (list_sort_ord swo_int hoL hz (fun h2 => ints_sortable hI h2) fun out hs hb => ⟨_, rfl, ?_⟩) (args_list_sort _)))
  obtain ⟨k1, k2, k3⟩ := ints_out hI hs hb
  obtain ⟨e, he⟩ := sortedHeap_at (vs := its) (out := out.toArray) hoL
  refine wpAny_pure ⟨_, rfl, h _ h1.objs.size out e (fun b ob hb => ?_) hle he k1 k2 k3⟩
  have hb1 := hk b ob hb
  have hlt : b < h1.objs.size := Heap.lt_size hb1
  rw [sortedHeap_old (Nat.ne_of_lt hlt) (by rw [Heap.size_push]; exact Nat.lt_succ_of_lt hlt)]
  exact Heap.get?_push_of_some _ hb1
end
section
variable {ι : Type} {G : Gd} {Xs : ι → Cx}
theorem objOk_get {P : Program} {w : World} {H : Hp} {h : Heap} {a : Addr} {o : HO} (x : ObjOk P w H h a o) : ∃ u, h.get? a = some u := by
  cases o with
  | lst xs => obtain ⟨_, _, _, _, e⟩ := x; exact ⟨_, e⟩
  | tup xs => obtain ⟨_, _, _, ob, e, _⟩ := x; exact ⟨_, e⟩
  | dK kvs => obtain ⟨_, _, _, _, o, _, _, e, _⟩ := x; exact ⟨_, e⟩
  | dT kvs => obtain ⟨_, _, _, _, o, _, _, e, _⟩ := x; exact ⟨_, e⟩
  | set S n => obtain ⟨o, _, _, _, e, _⟩ := x; exact ⟨_, e⟩
  | ins C dx fs => obtain ⟨_, _, _, e, _⟩ := x; exact ⟨_, e⟩
  | own y => obtain ⟨_, e⟩ := x; exact ⟨_, e⟩
  | xd fs => obtain ⟨_, ⟨_, _, _, e, _⟩, _⟩ := x; exact ⟨_, e⟩
  | rng lo hi => obtain ⟨_, _, _, e⟩ := x; exact ⟨_, e⟩
  | frz ob u => obtain ⟨e, _⟩ := x; exact ⟨_, e⟩
  | tbl ps => exact ⟨_, (show h.get? a = some _ from x)⟩
  | met f y => exact ⟨_, (show h.get? a = some _ from x)⟩
  | ext φ => obtain ⟨_, ⟨_, e⟩, _⟩ := x; exact ⟨_, e⟩
/-- sorted(xs), whole numbers -/
def fSorted : List D → Option D
  | [.lst ds] => (intsOf ds).map fun ns => .lst ((ns.mergeSort fun a b => decide (a ≤ b)).map .int)
  | [.tup ds] => (intsOf ds).map fun ns => .lst ((ns.mergeSort fun a b => decide (a ≤ b)).map .int)
  | _ => none
theorem ints_repL {H : Hp} : ∀ {ns : List Int}, RepL G H (ns.map D.int) (ns.map V.int) []
  | [] => .nil
  | n :: ns => RepL.cons (F := []) (Fs := []) (.int n) ints_repL
theorem ints_imm : ∀ {ns : List Int}, immL (ns.map D.int) = true
  | [] => rfl
  | n :: ns => by
    rw [List.map_cons, D.immL, ints_imm]
    rfl
theorem cb_sorted (ov : Ov G Xs) : CB G Xs (.builtin "sorted") fSorted := by
  refine ⟨fun xs H Q => ∃ (a : Addr) (ns : List Int), xs = [V.ref a] ∧ (SqL G.K H a (ns.map V.int) ∨ SqT G.K H a (ns.map V.int)) ∧ ∀ p, H p = none → Q (.ref p) (upd H p (.lst ((ns.mergeSort fun a b => decide (a ≤ b)).map V.int))), fun j => ?_, fun H ds z vs F Q rd hz fr => ?_⟩
  · intro pins s σ H vs us Q I r h
    obtain ⟨a, ns, rfl, hs, q⟩ := h
    rw [← ov j] at hs
    rw [Vals.ref1 r]
    have main : ∀ (T : String) (o : Obj) (its : List Value) (n : Nat), T = "list" ∨ T = "tuple" → s.heap.get? a = some o → o.cls = .type T → o.data = .seq its.toArray n → Vals (ns.map V.int) its → (ns.map V.int).length ≤ sizeLine → wpAny (model (Xs j).prog (Xs j).w) (Xs j).A (call (.builtin "sorted") [.ref a]) (L2.EP (Xs j) pins σ Q) (Xs j).xe s := fun T o its n hT ho hc hd rv hz => by
      refine sorted_seqI hT ho hc hd rv.ints (by rw [← rv.length]; exact hz) fun h' p out k hk hp he k1 k2 k3 => ?_
      have e1 := PySem.W.os_sorted_mergeSort k2 k3
      have hn : H p = none := by
        cases e : H p with
        | none => rfl
        | some u =>
          obtain ⟨o, ho⟩ := objOk_get (I.hok p u e)
          rw [ho] at hp
          cases hp
      refine ⟨.ref p, upd H p (.lst ((out.map SrtO.iv).map V.int)), I.laidN (t' := s.toks) hk hp hn ⟨?_, out, k, vals_of_ints k1, he⟩, rfl, ?_⟩
      · rw [List.length_map, k2.length_eq]
        rw [List.length_map] at hz
        exact hz
      · rw [e1]
        exact q p hn
    rcases hs with hs | hs
    · obtain ⟨its, rv, ⟨o, n, ho, hc, hd, hdat⟩, hz⟩ := I.list hs
      exact main "list" o its n (.inl rfl) ho hc hdat rv hz
    · obtain ⟨its, rv, ⟨o, ho, hc, n, hdat⟩, hz⟩ := I.tuple hs
      exact main "tuple" o its n (.inr rfl) ho hc hdat rv hz
  · match ds, hz with
    | [.lst ds], hz =>
      obtain ⟨ns, e, rfl⟩ := Option.map_eq_some_iff.mp hz
      obtain ⟨v, rfl, r⟩ := rd.one_inv
      cases r with
      | lst h rl =>
        obtain ⟨rfl, _, _⟩ := rl.ints e
        exact ⟨_, ns, rfl, .inl (SqL.of h), fresh_lst fr ints_repL ints_imm⟩
    | [.tup ds], hz =>
      obtain ⟨ns, e, rfl⟩ := Option.map_eq_some_iff.mp hz
      obtain ⟨v, rfl, r⟩ := rd.one_inv
      cases r with
      | tup h rl =>
        obtain ⟨rfl, _, _⟩ := rl.ints e
        exact ⟨_, ns, rfl, .inr h, fresh_lst fr ints_repL ints_imm⟩
end
end VL

/-! The value layer, part W: calls with keywords, how parameters are bound, the end of a law. -/
namespace VL
open PySem PySem.Spec L2 D
/-- the arguments in the parameters' order -/
def perm {α : Type} (π : List Nat) (xs : List α) : List α := π.filterMap fun i => xs[i]?
def BindK (G : Gd) (fd : FuncData) (ps ks : List Str) (n : Nat) (π : List Nat) : Prop := ∀ (s : Shared) (us ws : List Value), us.length = n → ws.length = ks.length → BindsTo s fd ⟨us, ks.zip ws⟩ (ps.zip (perm π (us ++ ws)))
theorem bindG_of {G : Gd} {x qual : Str} {st : Stmt} {f : Addr} {fd : FuncData} {ps : List Str} (F : Fun G.K x qual st f fd)
    (h : ∀ (kV doc pm : Value) (an : Option Addr) (cdv ct : Value) (us : List Value), us.length = ps.length → bindArgs (PySem.W.fnOf x qual (defArgs st) (defBody st) (defScope st) .none kV doc pm an cdv ct) ⟨us, []⟩ = pure (ps.zip us)) : BindG G fd ps := by
  obtain ⟨oc, od, kV, doc, pm, an, cdv, ct, osl, rfl, lk, hcd⟩ := F.ex
  exact fun s us hl => .of_eq (h kV doc pm an cdv ct us hl)
theorem bindK_of {G : Gd} {x qual : Str} {st : Stmt} {f : Addr} {fd : FuncData} {ps ks : List Str} {n : Nat} {π : List Nat} (F : Fun G.K x qual st f fd)
    (h : ∀ (kV doc pm : Value) (an : Option Addr) (cdv ct : Value) (us ws : List Value), us.length = n → ws.length = ks.length → bindArgs (PySem.W.fnOf x qual (defArgs st) (defBody st) (defScope st) .none kV doc pm an cdv ct) ⟨us, ks.zip ws⟩ = pure (ps.zip (perm π (us ++ ws)))) : BindK G fd ps ks n π := by
  obtain ⟨oc, od, kV, doc, pm, an, cdv, ct, osl, rfl, lk, hcd⟩ := F.ex
  exact fun s us ws hl hl2 => .of_eq (h kV doc pm an cdv ct us ws hl hl2)
theorem vals_perm {vs : List V} {us : List Value} (r : Vals vs us) : ∀ π : List Nat, Vals (perm π vs) (perm π us)
  | [] => .nil
  | i :: π => by
    unfold perm
    rw [List.filterMap_cons, List.filterMap_cons]
    cases e : vs[i]? with
    | none =>
      have e2 : us[i]? = none := by
        rw [List.getElem?_eq_none_iff] at e ⊢
        rw [← r.length]
        exact e
      rw [e2]
      exact vals_perm r π
    | some v =>
      obtain ⟨u, e2, rv⟩ := r.get e
      rw [e2]
      exact .cons rv (vals_perm r π)
theorem RepL.perm {G : Gd} {H : Hp} {ds : List D} {vs : List V} {F : List Addr} (r : RepL G H ds vs F) : ∀ π : List Nat, ∃ F', RepL G H (VL.perm π ds) (VL.perm π vs) F' ∧ ∀ a ∈ F', a ∈ F
  | [] => ⟨[], .nil, fun _ h => nomatch h⟩
  | i :: π => by
    obtain ⟨F', h1, h2⟩ := RepL.perm r π
    unfold VL.perm at h1 ⊢
    rw [List.filterMap_cons, List.filterMap_cons]
    cases e : ds[i]? with
    | none =>
      have e2 : vs[i]? = none := by
        rw [List.getElem?_eq_none_iff] at e ⊢
        rw [← r.length]
        exact e
      rw [e2]
      exact ⟨F', h1, h2⟩
    | some d =>
      obtain ⟨v, F1, e2, rv, sub⟩ := r.get e
      rw [e2]
      exact ⟨F1 ++ F', .cons rv h1, fun a h => (List.mem_append.mp h).elim (sub a) (h2 a)⟩
section
variable {X : Cx} {G : Gd} {k np : Nat} {f : Addr} {fd : FuncData} {ps ks : List Str} {Ma : List Nat} {S : Sem'} {E : XK} {x : Str} {p pos : Pos} {e : Expr} {es : List Expr} {kws : List Keyword} {t tk : TA} {mg : Str → Option Value} {base : Heap} {n : Nat} {π : List Nat}
theorem run_gk {pins : List (Addr × Obj)} {σ : St} {H : Hp} {s : Shared} {Q : VK} {us ws : List Value} {vs zs : List V} (on : On G mg base X) (F : FnG G mg base k f fd ps Ma S) (hr : RoomG k X.A) (hb : BindK G fd ps ks n π) (hx : Passes (L2.CX G.P G.w) X E)
    (I : Inv X pins σ H s) (r : Vals vs us) (rz : Vals zs ws) (h : vs.length = n ∧ zs.length = ks.length ∧ rG G ps.length Ma S E (VL.perm π (vs ++ zs)) H Q) : wpAny (model X.prog X.w) X.A (call (.ref f) us (ks.zip ws)) (L2.EP X pins σ Q) X.xe s := by
  obtain ⟨hg, rfl, rfl⟩ := on
  subst hg
  obtain ⟨l1, l2, ds, Fa, r', ds', hl, ha, hs, hp⟩ := h
  have rp := vals_perm (r.append rz) π
  refine wpAny_call (codeAny_mono (F.run X.A X.stack s H ⟨us, ks.zip ws⟩ _ _ ds Fa r' ds' Q E hr I.env0 (hb s us ws (by rw [← r.length]; exact l1) (by rw [← rz.length]; exact l2)) rp hl ha hs hp) fun res s' hq => ?_)
  cases res with
  | error e => exact hx pins σ H s e s' I hq
  | ok fl =>
    cases fl with
    | ret u => exact I.after hq
    | next => exact False.elim hq
    | brk => exact False.elim hq
    | cont => exact False.elim hq
def tGK (G : Gd) (np n : Nat) (ks : List Str) (π : List Nat) (Ma : List Nat) (S : Sem') (E : XK) (t tk : TA) : TE := fun σ H Q => t σ H fun vs H1 => tk σ H1 fun zs H2 => vs.length = n ∧ zs.length = ks.length ∧ rG G np Ma S E (VL.perm π (vs ++ zs)) H2 Q
theorem pe_callGK (on : On G mg base X) (F : FnG G mg base k f fd ps Ma S) (hr : RoomG k X.A) (hm : mg x = some (.ref f)) (hk : PySem.W.keepIn G.K (.ref f) = true) (hb : BindK G fd ps ks n π) (hx : Passes (L2.CX G.P G.w) X E) (ha : PA X (e :: es) t) (hkw : PK X kws tk)
    (hall : (backToKw pos (keywordEach kws X.env)).all (·.1.isSome) = true := by rfl) (hks : (backToKw pos (keywordEach kws X.env)).filterMap (·.1) = ks := by rfl) (hg : Gl X x := by rfl) (hdb : (x == ("__debug__" : Str)) = false := by decide) (he : starEach (e :: es) X.env = (false, eval e X.env) :: starEach es X.env := by rfl)
    (hpl : ((backTo pos (starEach (e :: es) X.env)).any (·.1) || (backToKw pos (keywordEach kws X.env)).any (·.1.isNone)) = false := by rfl) : PE X (.Call (.Name x p) (e :: es) kws pos) (tGK G ps.length n ks π Ma S E t tk) := by
  refine ⟨fun pins s σ H Q I h => ?_⟩
  have hk' : PySem.W.keepIn X.K (.ref f) = true := by
    have := on.g
    subst this
    exact hk
  refine wpAny_Call_Name_kw (ld_glob I hg (by rw [on.mg]; exact hm) ?_ hdb)
  refine PySem.W.callWith_KW (h₀ := X.base) I.ok.mod.kin hk' hall (thn (ha.run pos pins s σ H _ I h) fun us s1 ⟨vs, H1, I1, r, q⟩ => ?_) hpl he
  refine thn (hkw.run pos pins s1 σ H1 _ I1 q) fun ws s2 ⟨zs, H2, I2, rz, q2⟩ => ⟨I2.kIn, ?_⟩
  rw [hks]
  exact run_gk on F hr hb hx I2 r rz q2
theorem pe_callGK0 (on : On G mg base X) (F : FnG G mg base k f fd ps Ma S) (hr : RoomG k X.A) (hm : mg x = some (.ref f)) (hk : PySem.W.keepIn G.K (.ref f) = true) (hb : BindK G fd ps ks 0 π) (hx : Passes (L2.CX G.P G.w) X E) (hkw : PK X kws tk)
    (hall : (backToKw pos (keywordEach kws X.env)).all (·.1.isSome) = true := by rfl) (hks : (backToKw pos (keywordEach kws X.env)).filterMap (·.1) = ks := by rfl) (hg : Gl X x := by rfl) (hdb : (x == ("__debug__" : Str)) = false := by decide)
    (hpl : (backToKw pos (keywordEach kws X.env)).any (·.1.isNone) = false := by rfl) : PE X (.Call (.Name x p) [] kws pos) (tGK G ps.length 0 ks π Ma S E tNil tk) := by
  refine ⟨fun pins s σ H Q I h => ?_⟩
  have hk' : PySem.W.keepIn X.K (.ref f) = true := by
    have := on.g
    subst this
    exact hk
  refine wpAny_Call_Name_kw (ld_glob I hg (by rw [on.mg]; exact hm) ?_ hdb)
  refine PySem.W.callWith_KW0 (h₀ := X.base) I.ok.mod.kin hk' hall ?_ hpl
  refine thn (hkw.run pos pins s σ H _ I h) fun ws s2 ⟨zs, H2, I2, rz, q2⟩ => ⟨I2.kIn, ?_⟩
  rw [hks]
  exact run_gk (us := []) (vs := []) on F hr hb hx I2 .nil rz q2
end

/-! ### keywords over data -/
def EKw {ι : Type} (G : Gd) (Xs : ι → Cx) (M T S : List Nat) (o : Bool) (kws : List Keyword) (g : DSt → Option (List D × DSt)) : Prop :=
  ∃ t, (∀ j, PK (Xs j) kws t) ∧ ∀ (C : Act) (Fs : Nat → List Addr) (σ : St) (H : Hp) (st : DSt) (ds : List D) (st' : DSt) (Q : List V → Hp → Prop), C.M = M → SR G C Fs σ H st → g st = some (ds, st') →
    (∀ vs H' F Fs', SR G C Fs' σ H' st' → RepL G H' ds vs F → Eff T Fs H st Fs' H' st' → Res M S o H Fs' F → Q vs H') → t σ H Q
/-- a call that changes nothing in place, by places and by names -/
def gCallK (S : Sem') (π : List Nat) (gs gk : DSt → Option (List D × DSt)) : DSt → Option (D × DSt) := fun st => (gs st).bind fun p => (gk p.2).bind fun q => (S (perm π (p.1 ++ q.1))).bind fun r => match r.1 with
  | .val d => some (d, q.2)
  | .exc _ => none
theorem gCallK_some {S : Sem'} {π : List Nat} {gs gk : DSt → Option (List D × DSt)} {st st' : DSt} {d : D} (h : gCallK S π gs gk st = some (d, st')) : ∃ ds s1 es ds', gs st = some (ds, s1) ∧ gk s1 = some (es, st') ∧ S (perm π (ds ++ es)) = some (.val d, ds') := by
  unfold gCallK at h
  obtain ⟨⟨ds, s1⟩, e1, h⟩ := Option.bind_eq_some_iff.mp h
  obtain ⟨⟨es, s2⟩, e2, h⟩ := Option.bind_eq_some_iff.mp h
  obtain ⟨⟨r, ds'⟩, e3, h⟩ := Option.bind_eq_some_iff.mp h
  cases r with
  | val x =>
    cases h
    exact ⟨ds, s1, es, ds', e1, e2, e3⟩
  | exc e => cases h
section
variable {ι : Type} {G : Gd} {Xs : ι → Cx} {M T Tk S Sk : List Nat} {o ok_ : Bool} {k : Nat} {f : Addr} {fd : FuncData} {ps ks : List Str} {Sf : Sem'} {x : Str} {p pos kpos : Pos} {e : Expr} {es : List Expr} {kws : List Keyword} {nm : Option Str} {ga : DSt → Option (D × DSt)} {gs gk : DSt → Option (List D × DSt)} {mg : Str → Option Value} {base : Heap} {n : Nat} {π : List Nat}
theorem ekw_nil : EKw G Xs M [] [] true [] gNil := by
  refine ⟨tNil, fun _ => pk_nil, fun C Fs σ H st ds st' Q hM r hg q => ?_⟩
  cases hg
  exact q [] H [] Fs r .nil (Eff.pure (fun _ _ z => z) []) Res.nil
theorem ekw_cons (ha : EV G Xs M T S o e ga) (hr : EKw G Xs M Tk Sk ok_ kws gk) (ok : Ok M S Tk = true := by decide) : EKw G Xs M (T ++ Tk) (S ++ Sk) false (⟨nm, e, kpos⟩ :: kws) (gCons ga gk) := by
  obtain ⟨t1, p1, k1⟩ := ha
  obtain ⟨t2, p2, k2⟩ := hr
  refine ⟨_, fun j => pk_cons (p1 j) (p2 j), fun C Fs σ H st ds st' Q hM r hg q => ?_⟩
  obtain ⟨x, s1, ys, e1, e2, rfl⟩ := gCons_some hg
  refine k1 C Fs σ H st x s1 _ hM r e1 fun v1 H1 F1 Fs1 r1 rd1 ef1 rs1 => ?_
  refine k2 C Fs1 σ H1 s1 ys st' _ hM r1 e2 fun vs2 H2 F2 Fs2 r2 rd2 ef2 rs2 => ?_
  have rs1' := rs1.held ef2 fun a h => rd1.dom h
  refine q (v1 :: vs2) H2 (F1 ++ F2) Fs2 r2 (.cons (rd1.held hM r1 rs1 ef2 (Ok.of ok)) rd2) (ef1.trans ef2) ⟨fun i hi hs a h z => ?_, fun z => Bool.noConfusion z, fun z => Bool.noConfusion z, fun z => Bool.noConfusion z⟩
  rcases List.mem_append.mp h with h | h
  · exact rs1'.sh i hi (fun w => hs (List.mem_append_left _ w)) a h z
  · exact rs2.sh i hi (fun w => hs (List.mem_append_right _ w)) a h z
theorem ev_callK0 (on : ∀ j, On G mg base (Xs j)) (F : FnG G mg base k f fd ps [] Sf) (hr : ∀ j, RoomG k (Xs j).A) (hm : mg x = some (.ref f)) (hk : PySem.W.keepIn G.K (.ref f) = true) (hb : BindK G fd ps ks 0 π) (ha : EKw G Xs M T S o kws gk) (hlen : ∀ st ds st', gk st = some (ds, st') → ds.length = ks.length) (hπ : ∀ ds : List D, ds.length = ks.length → (perm π ds).length = ps.length)
    (hall : ∀ j, (backToKw pos (keywordEach kws (Xs j).env)).all (·.1.isSome) = true := by intro _; rfl) (hks : ∀ j, (backToKw pos (keywordEach kws (Xs j).env)).filterMap (·.1) = ks := by intro _; rfl) (hg : ∀ j, Gl (Xs j) x := by intro _; rfl) (hdb : (x == ("__debug__" : Str)) = false := by decide)
    (hpl : ∀ j, (backToKw pos (keywordEach kws (Xs j).env)).any (·.1.isNone) = false := by intro _; rfl) : EV G Xs M T [] true (.Call (.Name x p) [] kws pos) (gCallK Sf π gNil gk) := by
  obtain ⟨t, pp, kk⟩ := ha
  refine ⟨_, fun j => pe_callGK0 (on j) F (hr j) hm hk hb passG0 (pp j) (hall j) (hks j) (hg j) hdb (hpl j), fun C Fs σ H st d st' Q hM r0 hgg q => ?_⟩
  obtain ⟨ds, s1, es, ds', e1, e2, e3⟩ := gCallK_some hgg
  cases e1
  refine kk C Fs σ H st es st' _ hM r0 e2 fun vs H1 F1 Fs1 r1 rd1 ef1 rs1 => ?_
  have l2 := hlen _ _ _ e2
  obtain ⟨F', rp, _⟩ := rd1.perm π
  exact ⟨rfl, rd1.length.symm.trans l2, call0_core hM (hπ es l2) r1 rp ef1 e3 q⟩
theorem ev_callK (on : ∀ j, On G mg base (Xs j)) (F : FnG G mg base k f fd ps [] Sf) (hr : ∀ j, RoomG k (Xs j).A) (hm : mg x = some (.ref f)) (hk : PySem.W.keepIn G.K (.ref f) = true) (hb : BindK G fd ps ks n π) (ha : EA G Xs M T S o (e :: es) gs) (hkw : EKw G Xs M Tk Sk ok_ kws gk) (hlen : ∀ st ds st', gs st = some (ds, st') → ds.length = n) (hlen2 : ∀ st ds st', gk st = some (ds, st') → ds.length = ks.length) (hπ : ∀ ds : List D, ds.length = n + ks.length → (perm π ds).length = ps.length) (ok : Ok M S Tk = true := by decide)
    (hall : ∀ j, (backToKw pos (keywordEach kws (Xs j).env)).all (·.1.isSome) = true := by intro _; rfl) (hks : ∀ j, (backToKw pos (keywordEach kws (Xs j).env)).filterMap (·.1) = ks := by intro _; rfl) (hg : ∀ j, Gl (Xs j) x := by intro _; rfl) (hdb : (x == ("__debug__" : Str)) = false := by decide) (he : ∀ j, starEach (e :: es) (Xs j).env = (false, eval e (Xs j).env) :: starEach es (Xs j).env := by intro _; rfl)
    (hpl : ∀ j, ((backTo pos (starEach (e :: es) (Xs j).env)).any (·.1) || (backToKw pos (keywordEach kws (Xs j).env)).any (·.1.isNone)) = false := by intro _; rfl) : EV G Xs M (T ++ Tk) [] true (.Call (.Name x p) (e :: es) kws pos) (gCallK Sf π gs gk) := by
  obtain ⟨t, pp, kk⟩ := ha
  obtain ⟨t2, pp2, kk2⟩ := hkw
  refine ⟨_, fun j => pe_callGK (on j) F (hr j) hm hk hb passG0 (pp j) (pp2 j) (hall j) (hks j) (hg j) hdb (he j) (hpl j), fun C Fs σ H st d st' Q hM r0 hgg q => ?_⟩
  obtain ⟨ds, s1, es', ds', e1, e2, e3⟩ := gCallK_some hgg
  refine kk C Fs σ H st ds s1 _ hM r0 e1 fun vs H1 F1 Fs1 r1 rd1 ef1 rs1 => ?_
  refine kk2 C Fs1 σ H1 s1 es' st' _ hM r1 e2 fun zs H2 F2 Fs2 r2 rd2 ef2 rs2 => ?_
  have l1 := hlen _ _ _ e1
  have l2 := hlen2 _ _ _ e2
  obtain ⟨F', rp, _⟩ := ((rd1.held hM r1 rs1 ef2 (Ok.of ok)).append rd2).perm π
  exact ⟨rd1.length.symm.trans l1, rd2.length.symm.trans l2, call0_core hM (hπ _ (by rw [List.length_append, l1, l2])) r2 rp (ef1.trans ef2) e3 q⟩
end
end VL

/-! The value layer, part X: the end of a law; small helpers for what a program prints. -/
namespace VL
open PySem PySem.Spec L2 D
/-- the law's promise at the heap behind the top, over data -/
theorem law_callG {P : Program} {w : World} {K : PySem.W.Frag} {mg mb : Str → Option Value} {k : Nat} {fa a : Addr} {fd : FuncData} {x : Str} {S : Sem'} {s₁ : Shared} {vs : List Value} {ns : List Int}
    (KX : K.In s₁.heap) (hns : s₁.heap.Ns mainGlobals mg) (hb : s₁.heap.Ns builtinsNs mb) (hbb : ∀ x : Str, x ≠ "__name__" → mb x = bootBuiltins x) (hlim : s₁.heap.NoLimit) (hg : s₁.gens = #[])
    (ha : s₁.heap.get? a = some { cls := .type "list", data := .seq vs.toArray }) (hi : PyProof.Rows.IntsAre vs ns) (hl : ns.length ≤ sizeLine) (hr : RoomG k callerA)
    (F : ∀ base : Heap, K.In base → base.Ns mainGlobals mg → FnG ⟨P, w, K⟩ mg base k fa fd [x] [] S) (hbind : ∀ (s : Shared) (u : Value), BindsTo s fd ⟨[u], []⟩ [(x, u)])
    (hS : ∃ ds', S [.frl (ns.map .int)] = some (.val (.bl true), ds')) :
    codeAny (model P w) callerA (.call (.ref fa) ⟨[.ref a], []⟩) (fun r s' => r = .ok (.ret (.bool true)) ∧ OldK s₁.heap s'.heap ∧ s'.os = s₁.os ∧ PyProof.Rows.AllBare s'.gens) s₁ := by
  have rv := vals_ints hi
  have lenV := hi.length
  have core : ∀ H : Hp, Only H → FqL K H a (ns.map V.int) → HOk P w H s₁.heap → (∀ b, H b ≠ none → b = a) → (H a ≠ none → K.lookup a = none) →
      codeAny (model P w) callerA (.call (.ref fa) ⟨[.ref a], []⟩) (fun r s' => r = .ok (.ret (.bool true)) ∧ OldK s₁.heap s'.heap ∧ s'.os = s₁.os ∧ PyProof.Rows.AllBare s'.gens) s₁ := by
    intro H hO hSq hok hA hK
    have base_of : ∀ {b : Addr} {o : Obj}, s₁.heap.get? b = some o → H b = none → (hidT s₁.heap H).get? b = some o := fun e n => hidT_get e n
    have noA : ∀ {b : Addr} {o : Obj} {es : Array DictEntry} {ep : Nat}, s₁.heap.get? b = some o → o.data = .dict es ep → H b = none := fun {b o es ep} e d => by
      cases q : H b with
      | none => rfl
      | some u =>
        have e' : b = a := hA b (by rw [q]; simp)
        subst e'
        rw [ha] at e; cases e
        have d' : Data.seq vs.toArray _ = Data.dict es ep := d
        cases d'
    have nsK : ∀ {b : Addr} {m : Str → Option Value}, s₁.heap.Ns b m → (hidT s₁.heap H).Ns b m := fun {b m} ⟨o, es, ep, e, d, r⟩ => ⟨o, es, ep, base_of e (noA e d), d, r⟩
    have hKb : K.In (hidT s₁.heap H) := fun b o e => base_of (KX b o e) (by
      cases q : H b with
      | none => rfl
      | some u =>
        have e' : b = a := hA b (by rw [q]; simp)
        subst e'
        rw [hK (by rw [q]; simp)] at e; cases e)
    have hM : Mod K mg (hidT s₁.heap H) := ⟨hKb, nsK hns, ⟨mb, nsK hb, hbb⟩, let ⟨mc, h1, h2⟩ := hlim; ⟨mc, nsK h1, h2⟩⟩
    have e0 : Env0 P w K mg (hidT s₁.heap H) callerA [] s₁ H := ⟨rfl, hM, fun b o e => of_hidT e, Nat.le_of_eq (hidT_size _ _), trivial, fun b hb => absurd (show b ∈ ([] : List Addr) from hb) (by simp), hok, .of_eq hg⟩
    obtain ⟨ds', hs⟩ := hS
    have rd : RepL ⟨P, w, K⟩ H [.frl (ns.map .int)] [.ref a] [] := RepL.cons (F := []) (Fs := []) (.frl hSq ints_repL) .nil
    obtain ⟨Fa, h1, h2, h3⟩ := rd.each
    refine codeAny_mono ((F _ hKb (nsK hns)).run callerA [] s₁ H ⟨[.ref a], []⟩ [.ref a] [.ref a] [.frl (ns.map .int)] Fa (.val (.bl true)) ds' (fun v _ => v = .bl true) (fun _ _ _ => False) hr e0 (hbind s₁ (.ref a)) (.cons rfl .nil) rfl ⟨rfl, h1, h3, (fun _ h => nomatch h), (fun _ h => nomatch h)⟩ hs fun v H' F Fa' rv _ => rv.blv) fun r s' h => ?_
    cases r with
    | error e =>
      obtain ⟨_, _, _, _, _, _, _, _, _, _, _, _, z⟩ := h
      exact z.elim
    | ok fl =>
      cases fl with
      | next => exact False.elim h
      | brk => exact False.elim h
      | cont => exact False.elim h
      | ret u =>
        obtain ⟨v, H', os, bare, un, hok', r', q⟩ := h
        have q' : v = .bl true := q
        subst q'
        obtain rfl : u = Value.bool true := r'
        refine ⟨rfl, OldK.of_keep fun b o e => ?_, os, bare⟩
        cases q : H b with
        | none => exact un.keep b o e q (by intro z; exact absurd (show b ∈ ([] : List Addr) from z) (by simp)) (by simp)
        | some u =>
          rcases hO b with z | ⟨ob, xs, z⟩
          · rw [q] at z; cases z
          · have z2 := un.frzs b ob _ z
            obtain ⟨e1, _⟩ := hok b _ z
            obtain ⟨e2, _⟩ := hok' b _ z2
            rw [e] at e1; cases e1
            exact e2
  cases hk : K.lookup a with
  | some o =>
    have e := KX a o hk
    rw [ha] at e
    cases e
    refine core (fun _ => none) (fun _ => .inl rfl) (.inr ⟨_, vs.toArray, _, hk, rfl, rfl, rfl, by rw [List.size_toArray, lenV]; exact hl, by simpa using rv⟩) (fun b u z => by have z' : (none : Option HO) = some u := z; cases z') (fun b z => absurd rfl z) fun z => absurd rfl z
  | none =>
    refine core (fun b => if b = a then some (.frz { cls := .type "list", data := .seq vs.toArray } (.lst (ns.map V.int))) else none) (fun b => ?_) (.inl ⟨{ cls := .type "list", data := .seq vs.toArray }, if_pos rfl⟩) (fun b u z => ?_) (fun b z => ?_) fun _ => hk
    · by_cases hb : b = a
      · exact .inr ⟨_, _, if_pos hb⟩
      · exact .inl (if_neg hb)
    · by_cases hb : b = a
      · have z' := (if_pos hb).symm.trans z
        cases z'
        subst hb
        exact ⟨ha, by rw [List.length_map]; exact hl, vs, _, rv, ha⟩
      · have z' := (if_neg hb).symm.trans z
        cases z'
    · by_cases hb : b = a
      · exact hb
      · exact absurd (if_neg hb) z
/-- the goal that the head of a law row leaves (case hc) -/
theorem walk_G {l : PySem.W.OpenLaw} {n k : Nat} {q : Program} {loose : List Str} {XP : (Str → Option Value) → Heap → Prop} {YP : World → Heap → Prop} {d : DefRec} {K : Params → PySem.W.Frag} {S : Sem'} {x : Str}
    (hn : l.most = some n) (hn2 : n ≤ sizeLine) (hdf : d.params.defaults = []) (hr : RoomG k callerA)
    (hY : ∀ (w : World) (h : Heap), YP w h → (K w.params).In h)
    (F : ∀ (w : World) (mg : Str → Option Value) (fa : Addr) (h : Heap), (K w.params).In h → h.Ns mainGlobals mg → mg d.name = some (.ref fa) →
      ∃ fd : FuncData, (∀ (s : Shared) (u : Value), BindsTo s fd ⟨[u], []⟩ [(x, u)]) ∧ ∀ base : Heap, (K w.params).In base → base.Ns mainGlobals mg → FnG ⟨l.prog, w, K w.params⟩ mg base k fa fd [x] [] S)
    (hS : ∀ ns : List Int, ns.length ≤ n → ∃ ds', S [.frl (ns.map .int)] = some (.val (.bl true), ds')) :
    PySem.W.WalkO q loose XP YP l.row.toRowW d [] (fun f vs => PySem.call f vs) := by
  refine Att.attach_call hn hdf fun w s₀ s₁ mg mb fa o pm cd doc a vs ns G Y ho hd hcd hmg hobj hints hlen hg => ?_
  have KX := hY w _ Y
  obtain ⟨fd, hb, hF⟩ := F w mg fa _ KX G.T.g hmg
  exact law_callG KX G.T.g G.T.b G.T.builtins G.T.nolimit hg hobj hints (Nat.le_trans hlen hn2) hr hF hb (hS ns hlen)
theorem callerG {k : Nat} (h : Room k callerA) : RoomG k callerA := ⟨h, rfl⟩

/-! ### how long lists of arguments are -/
theorem len_nil : ∀ st ds st', gNil st = some (ds, st') → ds.length = 0 := fun st ds st' h => by
  cases h
  rfl
theorem len_cons {ga : DSt → Option (D × DSt)} {gs : DSt → Option (List D × DSt)} {n : Nat} (h : ∀ st ds st', gs st = some (ds, st') → ds.length = n) : ∀ st ds st', gCons ga gs st = some (ds, st') → ds.length = n + 1 := fun st ds st' e => by
  obtain ⟨x, s1, ys, e1, e2, rfl⟩ := gCons_some e
  rw [List.length_cons, h _ _ _ e2]
end VL

/-! The value layer, part Y: what a printed text uses. -/
namespace VL
open PySem PySem.Spec L2 D
open PyProof.Rows (envOfC)
/-- a family of contexts of one def -/
structure Ct {ι : Type} (G : Gd) (mg : Str → Option Value) (base : Heap) (k : Nat) (Xs : ι → Cx) : Prop where
  on : ∀ j, On G mg base (Xs j)
  room : ∀ j, RoomG k (Xs j).A
  calm : ∀ j, (Xs j).calm = true
  nd : ∀ j, (Xs j).N.Nodup
section
variable {ι : Type} {G : Gd} {mg : Str → Option Value} {base : Heap} {k : Nat} {Xs : ι → Cx}
theorem Ct.ov (c : Ct G mg base k Xs) : Ov G Xs := fun j => (c.on j).g
theorem Ct.hu (c : Ct G mg base k Xs) : Hu Xs := fun j => by
  have := (c.room j).room.un
  omega
theorem Ct.hg (c : Ct G mg base k Xs) : Hg Xs := fun j => (c.room j).gd
theorem Ct.no (c : Ct G mg base k Xs) {x : Str} (h : mg x = none) : ∀ j, (Xs j).mg x = none := fun j => by
  rw [(c.on j).mg]
  exact h
theorem Ct.blk (c : Ct G mg base k Xs) {scope : Scope} : Ct G mg base k (blkX Xs scope) :=
  ⟨fun j => ⟨(c.on j.1).g, (c.on j.1).mg, (c.on j.1).base⟩, fun j => c.room j.1, fun j => c.calm j.1, fun j => c.nd j.1⟩
theorem ct_body {N : List Str} {qual : Str} {sc : Scope} {f : Addr} {cdv : Value} {A : Around} {outer : List Env} {s : Shared} {H : Hp} (hr : RoomG k (A.deeper (envOfC qual sc s.heap.objs.size f cdv))) (nd : N.Nodup) : Ct G mg base k (one (quietCx G mg base N qual sc f cdv A outer s H)) :=
  ⟨fun _ => ⟨rfl, rfl, rfl⟩, fun _ => hr, fun _ => rfl, fun _ => nd⟩

/-! ### operations of any kind -/
def aAdd : D → D → Option D := orD fAdd (orD fCatL (orD fCatT fCatS))
def aMul : D → D → Option D := orD fMul fRepL
def aIn : D → D → Option D := orD (fInSeq false) fInDct
def aNotIn : D → D → Option D := orD (fInSeq true) fNotInDct
def aIx : D → D → Option D := orD fIx fIxDct
def aLen : List D → Option D := orL fLen fLenD
def aMax : List D → Option D := orL fMax2 fMaxL
def aMin : List D → Option D := orL fMin2 fMinL
def aList : List D → Option D := orL fList fListD
theorem x_Add (c : Ct G mg base k Xs) : OP2 G Xs (binaryOp .Add) aAdd := op_Add.or (op_CatL.or ((op_CatT c.ov).or op_CatS))
theorem x_Sub (c : Ct G mg base k Xs) : OP2 G Xs (binaryOp .Sub) fSub := op_Sub
theorem x_Mul (c : Ct G mg base k Xs) : OP2 G Xs (binaryOp .Mult) aMul := op_Mul.or op_RepL
theorem x_Div (c : Ct G mg base k Xs) : OP2 G Xs (binaryOp .FloorDiv) fDiv := op_Div
theorem x_Mod (c : Ct G mg base k Xs) : OP2 G Xs (binaryOp .Mod) fMod := op_Mod
theorem x_Pow (c : Ct G mg base k Xs) : OP2 G Xs (binaryOp .Pow) fPow := op_Pow
theorem x_Shl (c : Ct G mg base k Xs) : OP2 G Xs (binaryOp .LShift) fShl := op_Shl
theorem x_Shr (c : Ct G mg base k Xs) : OP2 G Xs (binaryOp .RShift) fShr := op_Shr
theorem x_Band (c : Ct G mg base k Xs) : OP2 G Xs (binaryOp .BitAnd) fBand := op_Band
theorem x_Bor (c : Ct G mg base k Xs) : OP2 G Xs (binaryOp .BitOr) fBor := op_Bor
theorem x_Xor (c : Ct G mg base k Xs) : OP2 G Xs (binaryOp .BitXor) fXor := op_Xor
theorem x_Eq (c : Ct G mg base k Xs) : OP2 G Xs (compareOp .Eq) fEq := op_Eq c.ov c.hu
theorem x_Ne (c : Ct G mg base k Xs) : OP2 G Xs (compareOp .NotEq) fNe := op_Ne c.ov c.hu
theorem x_Lt (c : Ct G mg base k Xs) : OP2 G Xs (compareOp .Lt) fLt := op_Lt
theorem x_Le (c : Ct G mg base k Xs) : OP2 G Xs (compareOp .LtE) fLe := op_Le
theorem x_Gt (c : Ct G mg base k Xs) : OP2 G Xs (compareOp .Gt) fGt := op_Gt
theorem x_Ge (c : Ct G mg base k Xs) : OP2 G Xs (compareOp .GtE) fGe := op_Ge
theorem x_In (c : Ct G mg base k Xs) : OP2 G Xs (compareOp .In) aIn := (op_In c.ov c.hu).or (op_inDct c.ov c.hu)
theorem x_NotIn (c : Ct G mg base k Xs) : OP2 G Xs (compareOp .NotIn) aNotIn := (op_NotIn c.ov c.hu).or (op_notInDct c.ov c.hu)
theorem x_Is (c : Ct G mg base k Xs) : OP2 G Xs (compareOp .Is) fIsN := op_IsN
theorem x_IsNot (c : Ct G mg base k Xs) : OP2 G Xs (compareOp .IsNot) fNotN := op_NotN
theorem x_Neg (c : Ct G mg base k Xs) : OP1 G Xs (unaryOp .USub) fNeg := op_Neg
theorem x_Ix (c : Ct G mg base k Xs) : IX G Xs aIx := (ix_seqD c.ov).or (ix_dct c.ov c.hu)
theorem x_len (c : Ct G mg base k Xs) : CB G Xs (.builtin "len") aLen := (cb_len c.ov).or (cb_lenD c.ov)
theorem x_max (c : Ct G mg base k Xs) : CB G Xs (.builtin "max") aMax := (cb_max2 c.calm).or (cb_maxL c.calm c.ov)
theorem x_min (c : Ct G mg base k Xs) : CB G Xs (.builtin "min") aMin := (cb_min2 c.calm).or (cb_minL c.calm c.ov)
theorem x_abs (c : Ct G mg base k Xs) : CB G Xs (.builtin "abs") fAbs := cb_abs
theorem x_sum (c : Ct G mg base k Xs) : CB G Xs (.builtin "sum") fSum := cb_sum c.calm c.ov
theorem x_any (c : Ct G mg base k Xs) : CB G Xs (.builtin "any") fAny := cb_any c.calm c.ov
theorem x_all (c : Ct G mg base k Xs) : CB G Xs (.builtin "all") fAll := cb_all c.calm c.ov
theorem x_repr (c : Ct G mg base k Xs) : CB G Xs (.builtin "repr") fRepr := cb_repr c.ov c.hu c.hg
theorem x_sorted (c : Ct G mg base k Xs) : CB G Xs (.builtin "sorted") fSorted := cb_sorted c.ov
theorem x_int (c : Ct G mg base k Xs) : CB G Xs (.type "int") fInt := cb_int
theorem x_bool (c : Ct G mg base k Xs) : CB G Xs (.type "bool") fBool := cb_bool
theorem x_tuple (c : Ct G mg base k Xs) : CB G Xs (.type "tuple") fTuple := cb_tuple c.ov
theorem x_list (c : Ct G mg base k Xs) : CB G Xs (.type "list") aList := (cb_list c.ov).or (cb_listD c.ov c.calm)
theorem x_dict (n : Bool) (c : Ct G mg base k Xs) : CB G Xs (.type "dict") (fDict n) := cb_dict n c.ov c.calm c.hu
end

section
variable {ι : Type} {G : Gd} {Xs : ι → Cx} {M : List Nat} {pos : Pos}
theorem v_pe {X : Cx} (i : Nat) {x : Str} (hN : X.N[i]? = some x := by rfl) (hv : Vis X.env.scope x := by first | exact .inl rfl | exact .inr (.inl rfl) | exact .inr (.inr rfl)) (hd : (x == ("__debug__" : Str)) = false := by decide) (hcd : (x == ("__classdict__" : Str)) = false := by decide) : PE X (.Name x pos) (tVar i) := pe_var hN hv hd hcd
/-- a name that is no place -/
theorem v_name (i : Nat) {x : Str} (hM : M.contains i = false := by decide) (hN : ∀ j, (Xs j).N[i]? = some x := by intro _; rfl) (hv : ∀ j, Vis (Xs j).env.scope x := by first | exact fun _ => .inl rfl | exact fun _ => .inr (.inl rfl) | exact fun _ => .inr (.inr rfl)) (hd : (x == ("__debug__" : Str)) = false := by decide) (hcd : (x == ("__classdict__" : Str)) = false := by decide) :
    EV G Xs M [] [] false (.Name x pos) (gVar i) := ev_name i [] (fun j => pe_var (hN j) (hv j) hd hcd) (.inl hM)
/-- a name whose data changes in place -/
theorem v_nameM (i : Nat) {x : Str} (hN : ∀ j, (Xs j).N[i]? = some x := by intro _; rfl) (hv : ∀ j, Vis (Xs j).env.scope x := by first | exact fun _ => .inl rfl | exact fun _ => .inr (.inl rfl) | exact fun _ => .inr (.inr rfl)) (hd : (x == ("__debug__" : Str)) = false := by decide) (hcd : (x == ("__classdict__" : Str)) = false := by decide) :
    EV G Xs M [] [i] false (.Name x pos) (gVar i) := ev_name i [i] (fun j => pe_var (hN j) (hv j) hd hcd) (.inr (by simp))
theorem v_place (i : Nat) {x : Str} (hM : M.contains i = true := by decide) (hN : ∀ j, (Xs j).N[i]? = some x := by intro _; rfl) (hv : ∀ j, Vis (Xs j).env.scope x := by first | exact fun _ => .inl rfl | exact fun _ => .inr (.inl rfl) | exact fun _ => .inr (.inr rfl)) (hd : (x == ("__debug__" : Str)) = false := by decide) (hcd : (x == ("__classdict__" : Str)) = false := by decide) :
    EP G Xs M (.Name x pos) i (pName i) := ep_name i (fun j => pe_var (hN j) (hv j) hd hcd) hM
end
/-! ### a def's meaning from its body -/
def outs : List Nat → List D → DSt → Option (List D)
  | [], ds, _ => some ds
  | j :: js, ds, st => match st[j]? with
    | some (some x) => (outs js ds st).map fun es => es.set j x
    | _ => none
def semB (N : List Str) (np : Nat) (Ma : List Nat) (gb : DSt → Option Out) : Sem' := fun ds => if ds.length = np then (gb (entry N ds)).bind fun o => match o with
  | .ret d st => (outs Ma ds st).map fun es => (.val d, es)
  | .nx st => (outs Ma ds st).map fun es => (.val .non, es)
  | _ => none else none
theorem outs_length : ∀ {Ma : List Nat} {ds es : List D} {st : DSt}, outs Ma ds st = some es → es.length = ds.length
  | [], ds, es, st, h => by
    cases h
    rfl
  | j :: js, ds, es, st, h => by
    unfold outs at h
    split at h
    · obtain ⟨fs, h1, rfl⟩ := Option.map_eq_some_iff.mp h
      rw [List.length_set]
      exact outs_length h1
    · cases h
theorem outs_at : ∀ {Ma : List Nat} {ds es : List D} {st : DSt} {i : Nat}, outs Ma ds st = some es → i ∈ Ma → i < ds.length → st[i]? = some es[i]?
  | j :: js, ds, es, st, i, h, hi, hl => by
    unfold outs at h
    split at h
    · rename_i x hx
      obtain ⟨fs, h1, rfl⟩ := Option.map_eq_some_iff.mp h
      by_cases e : i = j
      · subst e
        rw [hx, List.getElem?_set_self (by rw [outs_length h1]; exact hl)]
      · rw [List.getElem?_set_ne (Ne.symm e)]
        exact outs_at h1 ((List.mem_cons.mp hi).resolve_left e) hl
    · cases h
theorem semB_ok {N : List Str} {np : Nat} {Ma : List Nat} {gb : DSt → Option Out} (hMa : ∀ j ∈ Ma, j < np) {ds : List D} {r : Res'} {ds' : List D} (hl : ds.length = np) (h : semB N np Ma gb ds = some (r, ds')) : ∃ o, gb (entry N ds) = some o ∧ Gives Ma np o r ds' := by
  unfold semB at h
  rw [if_pos hl] at h
  obtain ⟨o, e1, h⟩ := Option.bind_eq_some_iff.mp h
  refine ⟨o, e1, ?_⟩
  cases o with
  | ret d st =>
    obtain ⟨es, e2, h⟩ := Option.map_eq_some_iff.mp h
    cases h
    exact ⟨rfl, (outs_length e2).trans hl, fun j hj => outs_at e2 hj (by rw [hl]; exact hMa j hj)⟩
  | nx st =>
    obtain ⟨es, e2, h⟩ := Option.map_eq_some_iff.mp h
    cases h
    exact ⟨rfl, (outs_length e2).trans hl, fun j hj => outs_at e2 hj (by rw [hl]; exact hMa j hj)⟩
  | bk st => cases h
  | ct st => cases h
/-- a def of the text, with its meaning -/
structure DefOk (G : Gd) (mg : Str → Option Value) (base : Heap) (k : Nat) (x : Str) (sd : Stmt) (ps : List Str) (Ma : List Nat) (S : Sem') : Prop where
  ex : ∃ f fd, Fun G.K x x sd f fd ∧ mg x = some (.ref f) ∧ FnG G mg base k f fd ps Ma S
theorem def_fn {G : Gd} {mg : Str → Option Value} {base : Heap} {k : Nat} {x : Str} {sd : Stmt} {f : Addr} {fd : FuncData} {N ps : List Str} {M O Ma : List Nat} {gb : DSt → Option Out} (Fu : Fun G.K x x sd f fd) (Sc : FnScope N ps (defScope sd)) (hN : ps.length ≤ N.length) (hMa : M.filter (· < ps.length) = Ma) (ob : OwnB M O ps.length = true)
    (body : ∀ (cdv : Value) (A : Around) (outer : List Env) (s : Shared) (H : Hp), Ct G mg base k (one (quietCx G mg base N x (defScope sd) f cdv A outer s H)) → DSs (quietCx G mg base N x (defScope sd) f cdv A outer s H) G M O ps.length (defBody sd) gb) :
    FnG G mg base (k + 1) f fd ps Ma (semB N ps.length Ma gb) := by
  subst hMa
  refine fn_body Fu Sc hN (fun _ => gb) (fun cdv A outer s H n hr => body cdv A outer s H (ct_body hr Sc.nd)) ob fun ds r ds' hl h => ?_
  obtain ⟨o, e, g⟩ := semB_ok (fun j hj => by simpa using (List.mem_filter.mp hj).2) hl h
  exact ⟨0, o, e, g⟩
/-- THE RULE for a def of the text without while and recursion -/
theorem def_ok {G : Gd} {mg : Str → Option Value} {base : Heap} {k : Nat} {x : Str} {sd : Stmt} {f : Addr} {fd : FuncData} {N ps : List Str} {M O Ma : List Nat} {gb : DSt → Option Out} (Fu : Fun G.K x x sd f fd) (hm : mg x = some (.ref f)) (Sc : FnScope N ps (defScope sd)) (hN : ps.length ≤ N.length) (hMa : M.filter (· < ps.length) = Ma) (ob : OwnB M O ps.length = true)
    (body : ∀ (cdv : Value) (A : Around) (outer : List Env) (s : Shared) (H : Hp), Ct G mg base k (one (quietCx G mg base N x (defScope sd) f cdv A outer s H)) → DSs (quietCx G mg base N x (defScope sd) f cdv A outer s H) G M O ps.length (defBody sd) gb) :
    DefOk G mg base (k + 1) x sd ps Ma (semB N ps.length Ma gb) := ⟨f, fd, Fu, hm, def_fn Fu Sc hN hMa ob body⟩
/-- a def with loops: gb by how much they may turn, the meaning with as much as is given -/
theorem def_okW {G : Gd} {mg : Str → Option Value} {base : Heap} {k : Nat} {x : Str} {sd : Stmt} {f : Addr} {fd : FuncData} {N ps : List Str} {M O Ma : List Nat} {gb : Nat → DSt → Option Out} (fuel : List D → Nat) (Fu : Fun G.K x x sd f fd) (hm : mg x = some (.ref f)) (Sc : FnScope N ps (defScope sd)) (hN : ps.length ≤ N.length) (hMa : M.filter (· < ps.length) = Ma) (ob : OwnB M O ps.length = true)
    (body : ∀ (cdv : Value) (A : Around) (outer : List Env) (s : Shared) (H : Hp) (n : Nat), Ct G mg base k (one (quietCx G mg base N x (defScope sd) f cdv A outer s H)) → DSs (quietCx G mg base N x (defScope sd) f cdv A outer s H) G M O ps.length (defBody sd) (gb n)) :
    DefOk G mg base (k + 1) x sd ps Ma (fun ds => semB N ps.length Ma (gb (fuel ds)) ds) := by
  refine ⟨f, fd, Fu, hm, ?_⟩
  subst hMa
  refine fn_body Fu Sc hN gb (fun cdv A outer s H n hr => body cdv A outer s H n (ct_body hr Sc.nd)) ob fun ds r ds' hl h => ?_
  obtain ⟨o, e, g⟩ := semB_ok (fun j hj => by simpa using (List.mem_filter.mp hj).2) hl h
  exact ⟨fuel ds, o, e, g⟩
/-- how a def binds values by place -/
def BdP (x : Str) (sd : Stmt) (ps : List Str) : Prop := ∀ (kV doc pm : Value) (an : Option Addr) (cdv ct : Value) (us : List Value), us.length = ps.length → bindArgs (PySem.W.fnOf x x (defArgs sd) (defBody sd) (defScope sd) .none kV doc pm an cdv ct) ⟨us, []⟩ = pure (ps.zip us)
/-- .. n by place, the others by the names ks -/
def BdK (x : Str) (sd : Stmt) (ps ks : List Str) (n : Nat) (π : List Nat) : Prop := ∀ (kV doc pm : Value) (an : Option Addr) (cdv ct : Value) (us ws : List Value), us.length = n → ws.length = ks.length → bindArgs (PySem.W.fnOf x x (defArgs sd) (defBody sd) (defScope sd) .none kV doc pm an cdv ct) ⟨us, ks.zip ws⟩ = pure (ps.zip (perm π (us ++ ws)))
section
variable {ι : Type} {G : Gd} {Xs : ι → Cx} {M T Tk S Sk : List Nat} {o ok_ : Bool} {k kf : Nat} {ps ks : List Str} {Sf : Sem'} {x : Str} {sd : Stmt} {p pos : Pos} {e : Expr} {es : List Expr} {kws : List Keyword} {gs gk : DSt → Option (List D × DSt)} {mg : Str → Option Value} {base : Heap} {n : Nat} {π : List Nat}
theorem c_call (c : Ct G mg base k Xs) (Df : DefOk G mg base kf x sd ps [] Sf) (bd : BdP x sd ps) (ha : EA G Xs M T S o (e :: es) gs) (hlen : ∀ st ds st', gs st = some (ds, st') → ds.length = ps.length) (hl : (e :: es).length = ps.length := by rfl) (hk : kf ≤ k := by decide)
    (hg : ∀ j, Gl (Xs j) x := by intro _; rfl) (hdb : (x == ("__debug__" : Str)) = false := by decide) (he : ∀ j, starEach (e :: es) (Xs j).env = (false, eval e (Xs j).env) :: starEach es (Xs j).env := by intro _; rfl) (hpl : ∀ j, (backTo pos (starEach es (Xs j).env)).any (·.1) = false := by intro _; rfl) :
    EV G Xs M T [] true (.Call (.Name x p) (e :: es) [] pos) (gCall0 Sf gs) := by
  obtain ⟨f, fd, Fu, hm, F⟩ := Df.ex
  exact ev_call0 c.on F (fun j => (c.room j).mono hk) hm Fu.kp (bindG_of Fu bd) ha hl (fun st ds st' h => (hlen st ds st' h).trans hl.symm) hg hdb he hpl
theorem c_call0 (c : Ct G mg base k Xs) (Df : DefOk G mg base kf x sd ps [] Sf) (bd : BdP x sd ps) (hl : ps.length = 0 := by rfl) (hk : kf ≤ k := by decide) (hg : ∀ j, Gl (Xs j) x := by intro _; rfl) (hdb : (x == ("__debug__" : Str)) = false := by decide) :
    EV G Xs M [] [] true (.Call (.Name x p) [] [] pos) (gCall0 Sf gNil) := by
  obtain ⟨f, fd, Fu, hm, F⟩ := Df.ex
  exact ev_call00 c.on F (fun j => (c.room j).mono hk) hm Fu.kp (bindG_of Fu bd) hl hg hdb
theorem c_call1 (i : Nat) {y : Str} {py : Pos} (c : Ct G mg base k Xs) (Df : DefOk G mg base kf x sd ps [0] Sf) (bd : BdP x sd ps) (hy : ∀ j, PE (Xs j) (.Name y py) (tVar i)) (ha : EA G Xs M T S o es gs) (hlen : ∀ st ds st', gs st = some (ds, st') → ds.length = es.length) (him : (M.contains i && !S.contains i && !T.contains i) = true := by decide) (hl : es.length + 1 = ps.length := by rfl) (hk : kf ≤ k := by decide)
    (hg : ∀ j, Gl (Xs j) x := by intro _; rfl) (hdb : (x == ("__debug__" : Str)) = false := by decide) (he : ∀ j, starEach (.Name y py :: es) (Xs j).env = (false, eval (.Name y py) (Xs j).env) :: starEach es (Xs j).env := by intro _; rfl) (hpl : ∀ j, (backTo pos (starEach es (Xs j).env)).any (·.1) = false := by intro _; rfl) :
    EV G Xs M (T ++ [i]) [] true (.Call (.Name x p) (.Name y py :: es) [] pos) (gCall1 Sf i gs) := by
  obtain ⟨f, fd, Fu, hm, F⟩ := Df.ex
  exact ev_call1 i c.on F (fun j => (c.room j).mono hk) hm Fu.kp (bindG_of Fu bd) hy ha him hl hlen hg hdb he hpl
theorem c_callK0 (c : Ct G mg base k Xs) (Df : DefOk G mg base kf x sd ps [] Sf) (bd : BdK x sd ps ks 0 π) (ha : EKw G Xs M T S o kws gk) (hlen : ∀ st ds st', gk st = some (ds, st') → ds.length = ks.length) (hπ : ∀ ds : List D, ds.length = ks.length → (perm π ds).length = ps.length) (hk : kf ≤ k := by decide)
    (hall : ∀ j, (backToKw pos (keywordEach kws (Xs j).env)).all (·.1.isSome) = true := by intro _; rfl) (hks : ∀ j, (backToKw pos (keywordEach kws (Xs j).env)).filterMap (·.1) = ks := by intro _; rfl) (hg : ∀ j, Gl (Xs j) x := by intro _; rfl) (hdb : (x == ("__debug__" : Str)) = false := by decide)
    (hpl : ∀ j, (backToKw pos (keywordEach kws (Xs j).env)).any (·.1.isNone) = false := by intro _; rfl) : EV G Xs M T [] true (.Call (.Name x p) [] kws pos) (gCallK Sf π gNil gk) := by
  obtain ⟨f, fd, Fu, hm, F⟩ := Df.ex
  exact ev_callK0 c.on F (fun j => (c.room j).mono hk) hm Fu.kp (bindK_of Fu bd) ha hlen hπ hall hks hg hdb hpl
theorem c_callK (c : Ct G mg base k Xs) (Df : DefOk G mg base kf x sd ps [] Sf) (bd : BdK x sd ps ks n π) (ha : EA G Xs M T S o (e :: es) gs) (hkw : EKw G Xs M Tk Sk ok_ kws gk) (hlen : ∀ st ds st', gs st = some (ds, st') → ds.length = n) (hlen2 : ∀ st ds st', gk st = some (ds, st') → ds.length = ks.length) (hπ : ∀ ds : List D, ds.length = n + ks.length → (perm π ds).length = ps.length) (ok : Ok M S Tk = true := by decide) (hk : kf ≤ k := by decide)
    (hall : ∀ j, (backToKw pos (keywordEach kws (Xs j).env)).all (·.1.isSome) = true := by intro _; rfl) (hks : ∀ j, (backToKw pos (keywordEach kws (Xs j).env)).filterMap (·.1) = ks := by intro _; rfl) (hg : ∀ j, Gl (Xs j) x := by intro _; rfl) (hdb : (x == ("__debug__" : Str)) = false := by decide) (he : ∀ j, starEach (e :: es) (Xs j).env = (false, eval e (Xs j).env) :: starEach es (Xs j).env := by intro _; rfl)
    (hpl : ∀ j, ((backTo pos (starEach (e :: es) (Xs j).env)).any (·.1) || (backToKw pos (keywordEach kws (Xs j).env)).any (·.1.isNone)) = false := by intro _; rfl) : EV G Xs M (T ++ Tk) [] true (.Call (.Name x p) (e :: es) kws pos) (gCallK Sf π gs gk) := by
  obtain ⟨f, fd, Fu, hm, F⟩ := Df.ex
  exact ev_callK c.on F (fun j => (c.room j).mono hk) hm Fu.kp (bindK_of Fu bd) ha hkw hlen hlen2 hπ ok hall hks hg hdb he hpl
end
theorem perm_len {π : List Nat} {n : Nat} (h : (π.all fun i => decide (i < n)) = true) {α : Type} {ds : List α} (hl : ds.length = n) : (perm π ds).length = π.length := by
  unfold perm
  induction π with
  | nil => rfl
  | cons i π ih =>
    rw [List.all_cons, Bool.and_eq_true, decide_eq_true_eq] at h
    rw [List.filterMap_cons, List.getElem?_eq_getElem (by omega)]
    simp only [List.length_cons]
    rw [ih h.2]
end VL

/-! The value layer, part Z: several names at once. -/
namespace VL
open PySem PySem.Spec L2 D
def setV (σ : St) : List Nat → List V → St
  | i :: is, v :: vs => setV (σ.set i (some v)) is vs
  | _, _ => σ
def setS (st : DSt) : List Nat → List D → DSt
  | i :: is, d :: ds => setS (st.set i (some d)) is ds
  | _, _ => st
section
variable {G : Gd} {C : Act}
theorem SR.putN : ∀ {is : List Nat} {Fs : Nat → List Addr} {σ : St} {H : Hp} {st : DSt} {ds : List D} {vs : List V} {F : List Addr}, SR G C Fs σ H st → RepL G H ds vs F → F.Nodup → (∀ a ∈ F, C.H0 a = none ∧ C.Pr a = none) → (∀ k, ∀ a ∈ F, a ∉ Fs k) → (∀ i ∈ is, C.np ≤ i) → ∃ Fs', SR G C Fs' (setV σ is vs) H (setS st is ds)
  | [], Fs, σ, H, st, ds, vs, F, r, _, _, _, _, _ => ⟨Fs, r⟩
  | i :: is, Fs, σ, H, st, [], vs, F, r, rl, _, _, _, _ => by
    cases rl
    exact ⟨Fs, r⟩
  | i :: is, Fs, σ, H, st, d :: ds, _, _, r, .cons (v := v) (F := F1) (Fs := F2) rd rs, nd, nw, ap, hnp => by
    obtain ⟨n1, n2, n3⟩ := List.nodup_append.mp nd
    obtain ⟨Fs1, r1, k1, s1⟩ := r.put (i := i) rd ⟨fun j _ _ a h => ap j a (List.mem_append_left _ h), fun _ => n1, fun _ j _ a h => ap j a (List.mem_append_left _ h), fun _ a h => .inl (nw a (List.mem_append_left _ h)).1, fun _ a h => (nw a (List.mem_append_left _ h)).2⟩ fun _ hlt => by
      have := hnp i List.mem_cons_self
      omega
    show ∃ Fs', SR G C Fs' (setV (σ.set i (some v)) is _) H (setS (st.set i (some d)) is ds)
    exact SR.putN (is := is) r1 rs n2 (fun a h => nw a (List.mem_append_right _ h)) (fun k a h z => by
      by_cases e : k = i
      · subst e
        exact n3 a (s1 a z) a h rfl
      · rw [k1 k e] at z
        exact ap k a (List.mem_append_right _ h) z) fun j hj => hnp j (List.mem_cons_of_mem _ hj)
theorem SR.putP : ∀ {is : List Nat} {Fs : Nat → List Addr} {σ : St} {H : Hp} {st : DSt} {ds : List D} {vs : List V} {F : List Addr}, SR G C Fs σ H st → RepL G H ds vs F → (∀ i ∈ C.M, ∀ a ∈ F, a ∉ Fs i) → (∀ i ∈ is, i ∉ C.O) → ∃ Fs', SR G C Fs' (setV σ is vs) H (setS st is ds)
  | [], Fs, σ, H, st, ds, vs, F, r, _, _, _ => ⟨Fs, r⟩
  | i :: is, Fs, σ, H, st, [], vs, F, r, rl, _, _ => by
    cases rl
    exact ⟨Fs, r⟩
  | i :: is, Fs, σ, H, st, d :: ds, _, _, r, .cons (v := v) (F := F1) (Fs := F2) rd rs, sh, ho => by
    have nO : i ∉ C.O := ho i List.mem_cons_self
    have nM : i ∉ C.M := fun z => nO (r.mo i z)
    obtain ⟨Fs1, r1, k1, s1⟩ := r.put (i := i) rd ⟨fun j hj _ a h => sh j hj a (List.mem_append_left _ h), fun z => absurd z nO, fun z => absurd z nM, fun z => absurd z nO, fun z => absurd z nM⟩ fun z => absurd z nM
    show ∃ Fs', SR G C Fs' (setV (σ.set i (some v)) is _) H (setS (st.set i (some d)) is ds)
    exact SR.putP (is := is) r1 rs (fun k hk a h z => by
      rw [k1 k fun e => nM (e ▸ hk)] at z
      exact sh k hk a (List.mem_append_right _ h) z) fun j hj => ho j (List.mem_cons_of_mem _ hj)
end
def sPar (is : List Nat) (gs : DSt → Option (List D × DSt)) : DSt → Option Out := fun st => (gs st).bind fun p => if p.1.length = is.length then some (.nx (setS p.2 is p.1)) else none
/-- what the targets may be -/
def ParB (O is : List Nat) (np : Nat) (o : Bool) : Bool := (is.all fun i => !O.contains i) || (o && is.all fun i => decide (np ≤ i))
section
variable {X : Cx} {G : Gd} {M O T : List Nat} {o : Bool} {np : Nat} {gs : DSt → Option (List D × DSt)} {px py pz pt pos : Pos} {kt k2 : Nat} {pt2 : Pos} {a b c : Expr} {x y z : Str}
theorem par_core {is : List Nat} {C : Act} {Fs Fs1 : Nat → List Addr} {σ : St} {H H1 : Hp} {st s1 : DSt} {ds : List D} {vs : List V} {F : List Addr} (hM : C.M = M) (hO : C.O = O) (hn : C.np = np) (r : SR G C Fs σ H st) (r1 : SR G C Fs1 σ H1 s1) (rd : RepL G H1 ds vs F) (rs : Res M [] o H Fs1 F) (hb : ParB O is np o = true) : ∃ Fs', SR G C Fs' (setV σ is vs) H1 (setS s1 is ds) := by
  subst hM hO hn
  unfold ParB at hb
  rw [Bool.or_eq_true, Bool.and_eq_true] at hb
  rcases hb with hb | ⟨rfl, hb⟩
  · exact r1.putP rd (fun i hi a h => rs.sh i hi (fun z => nomatch z) a h) fun i hi => notO hb hi
  · refine r1.putN rd (rs.nd rfl) (fun a h => ⟨r.up a (rs.nw rfl a h), ?_⟩) (fun k a h => rs.ap rfl k a h) fun i hi => of_decide_eq_true (List.all_eq_true.mp hb i hi)
    cases e : C.Pr a with
    | none => rfl
    | some u =>
      have := r.pr a u e
      rw [rs.nw rfl a h] at this
      cases this
theorem ds_par2 (i j : Nat) (hc : X.calm = true) (hN : X.N.Nodup) (ha : EA G (one X) M T [] o [a, b] gs) (hi : X.N[i]? = some x := by rfl) (hj : X.N[j]? = some y := by rfl) (hij : i ≠ j := by decide) (hx : X.env.scope.names.lookup x = some .local := by rfl) (hy : X.env.scope.names.lookup y = some .local := by rfl)
    (hw : swappedStores [.Tuple [.Name x px, .Name y py] kt pt] (.Tuple [a, b] k2 pt2) X.env = pure (some [x, y]) := by rfl) (hs : swapsWithSole [.Tuple [.Name x px, .Name y py] kt pt] (.Tuple [a, b] k2 pt2) pos.line X.env = pure false := by rfl) (hb : ParB O [i, j] np o = true := by decide) :
    DS X G M O np (.Assign [.Tuple [.Name x px, .Name y py] kt pt] (.Tuple [a, b] k2 pt2) pos) (sPar [i, j] gs) := by
  obtain ⟨t, p, k⟩ := ha
  refine ⟨_, ps_par hc hN hi hj hij hx hy (p ()) hw hs, fun K C Fs σ H st out hM hO hn r hg q => ?_⟩
  unfold sPar at hg
  obtain ⟨⟨ds, s1⟩, e1, hg⟩ := Option.bind_eq_some_iff.mp hg
  dsimp only at hg
  split at hg
  · rename_i hl
    cases hg
    refine k C Fs σ H st ds s1 _ hM r e1 fun vs H1 F Fs1 r1 rd ef rs => ?_
    obtain ⟨Fs2, r2⟩ := par_core hM hO hn r r1 rd rs hb
    have l2 := rd.length.symm.trans hl
    match vs, l2 with
    | [v, w], _ => exact ⟨v, w, rfl, q _ H1 Fs2 r2⟩
  · cases hg
theorem ds_par3 (i j l : Nat) (hc : X.calm = true) (hN : X.N.Nodup) (ha : EA G (one X) M T [] o [a, b, c] gs) (hi : X.N[i]? = some x := by rfl) (hj : X.N[j]? = some y := by rfl) (hl : X.N[l]? = some z := by rfl) (hij : i ≠ j := by decide) (hil : i ≠ l := by decide) (hjl : j ≠ l := by decide)
    (hx : X.env.scope.names.lookup x = some .local := by rfl) (hy : X.env.scope.names.lookup y = some .local := by rfl) (hz : X.env.scope.names.lookup z = some .local := by rfl)
    (hw : swappedStores [.Tuple [.Name x px, .Name y py, .Name z pz] kt pt] (.Tuple [a, b, c] k2 pt2) X.env = pure (some [x, y, z]) := by rfl) (hs : swapsWithSole [.Tuple [.Name x px, .Name y py, .Name z pz] kt pt] (.Tuple [a, b, c] k2 pt2) pos.line X.env = pure false := by rfl) (hb : ParB O [i, j, l] np o = true := by decide) :
    DS X G M O np (.Assign [.Tuple [.Name x px, .Name y py, .Name z pz] kt pt] (.Tuple [a, b, c] k2 pt2) pos) (sPar [i, j, l] gs) := by
  obtain ⟨t, p, k⟩ := ha
  refine ⟨_, ps_par3 hc hN hi hj hl hij hil hjl hx hy hz (p ()) hw hs, fun K C Fs σ H st out hM hO hn r hg q => ?_⟩
  unfold sPar at hg
  obtain ⟨⟨ds, s1⟩, e1, hg⟩ := Option.bind_eq_some_iff.mp hg
  dsimp only at hg
  split at hg
  · rename_i hl
    cases hg
    refine k C Fs σ H st ds s1 _ hM r e1 fun vs H1 F Fs1 r1 rd ef rs => ?_
    obtain ⟨Fs2, r2⟩ := par_core hM hO hn r r1 rd rs hb
    have l2 := rd.length.symm.trans hl
    match vs, l2 with
    | [u, v, w], _ => exact ⟨u, v, w, rfl, q _ H1 Fs2 r2⟩
  · cases hg
end
end VL

/-! Steps of the data's own programs. -/
namespace VL
open PySem D
/-- equality of flat data, by fuel -/
def eqL (f : D → D → Bool) : List D → List D → Bool
  | [], [] => true
  | a :: as, b :: bs => f a b && eqL f as bs
  | _, _ => false
def eqN : Nat → D → D → Bool
  | _, .non, .non => true
  | _, .bl a, .bl b => a == b
  | _, .int a, .int b => decide (a = b)
  | _, .str a, .str b => decide (a = b)
  | k + 1, .tup a, .tup b => eqL (eqN k) a b
  | k + 1, .lst a, .lst b => eqL (eqN k) a b
  | _, _, _ => false
theorem eqL_eq {f : D → D → Bool} (hf : ∀ a b, f a b = true → a = b) : ∀ {as bs : List D}, eqL f as bs = true → as = bs
  | [], [], _ => rfl
  | a :: as, b :: bs, h => by
    unfold eqL at h
    rw [Bool.and_eq_true] at h
    rw [hf _ _ h.1, eqL_eq hf h.2]
  | [], _ :: _, h => by cases h
  | _ :: _, [], h => by cases h
theorem eqN_eq : ∀ (k : Nat) (a b : D), eqN k a b = true → a = b
  | 0, a, b, h => by
    unfold eqN at h
    split at h <;> first | rfl | (simp at h; rw [h]) | cases h | contradiction
  | k + 1, a, b, h => by
    unfold eqN at h
    split at h <;> first | rfl | (rw [eqL_eq (eqN_eq k) h]; done) | (simp at h; rw [h]; done) | cases h | (cases ‹_ + 1 = Nat.succ _›; rw [eqL_eq (eqN_eq _) h]; done)
def isV : Option (Res' × List D) → D → List D → Bool
  | some (.val e, es), d, ds => eqN 9 e d && eqL (eqN 9) es ds
  | _, _, _ => false
theorem isV_eq {r : Option (Res' × List D)} {d : D} {ds : List D} (h : isV r d ds = true) : r = some (.val d, ds) := by
  unfold isV at h
  split at h
  · rw [Bool.and_eq_true] at h
    rw [eqN_eq _ _ _ h.1, eqL_eq (eqN_eq 9) h.2]
  · cases h
def isD : Option D → D → Bool
  | some e, d => eqN 9 e d
  | _, _ => false
theorem isD_eq {r : Option D} {d : D} (h : isD r d = true) : r = some d := by
  unfold isD at h
  split at h
  · rw [eqN_eq _ _ _ h]
  · cases h
def nums (l : List Nat) : List D := l.map fun n => .int (n : Nat)
def bits (n m : Nat) : List Nat := (List.range n).filter fun i => m.testBit i
/-! ### sorting, by structure -/
def insI (x : Int) : List Int → List Int
  | [] => [x]
  | y :: ys => if x ≤ y then x :: y :: ys else y :: insI x ys
def isort : List Int → List Int
  | [] => []
  | x :: xs => insI x (isort xs)
theorem insI_perm (x : Int) : ∀ ys : List Int, (insI x ys).Perm (x :: ys)
  | [] => .refl _
  | y :: ys => by
    unfold insI
    split
    · exact .refl _
    · exact ((insI_perm x ys).cons y).trans (.swap ..)
theorem isort_perm : ∀ xs : List Int, (isort xs).Perm xs
  | [] => .refl _
  | x :: xs => (insI_perm x _).trans ((isort_perm xs).cons x)
theorem insI_sorted (x : Int) : ∀ {ys : List Int}, ys.Pairwise (· ≤ ·) → (insI x ys).Pairwise (· ≤ ·)
  | [], _ => by simp [insI]
  | y :: ys, h => by
    unfold insI
    rw [List.pairwise_cons] at h
    split
    · rename_i e
      refine List.pairwise_cons.mpr ⟨fun z hz => ?_, List.pairwise_cons.mpr h⟩
      rcases List.mem_cons.mp hz with rfl | hz
      · exact e
      · exact Int.le_trans e (h.1 z hz)
    · rename_i e
      refine List.pairwise_cons.mpr ⟨fun z hz => ?_, insI_sorted x h.2⟩
      rcases List.mem_cons.mp ((insI_perm x ys).mem_iff.mp hz) with rfl | hz
      · omega
      · exact h.1 z hz
theorem isort_sorted : ∀ xs : List Int, (isort xs).Pairwise (· ≤ ·)
  | [] => .nil
  | x :: xs => insI_sorted x (isort_sorted xs)
theorem mergeSort_isort (xs : List Int) : xs.mergeSort (fun a b => decide (a ≤ b)) = isort xs := by
  refine List.Perm.eq_of_pairwise (le := (· ≤ ·)) (fun a b _ _ h1 h2 => Int.le_antisymm h1 h2) ?_ (isort_sorted xs) ((List.mergeSort_perm xs _).trans (isort_perm xs).symm)
  have := List.pairwise_mergeSort (le := fun (a b : Int) => decide (a ≤ b)) (fun a b c h1 h2 => by simp at *; omega) (fun a b => by simp; omega) xs
  exact this.imp fun h => by simpa using h
def fSortedI : List D → Option D
  | [.lst ds] => (intsOf ds).map fun ns => .lst ((isort ns).map .int)
  | [.tup ds] => (intsOf ds).map fun ns => .lst ((isort ns).map .int)
  | _ => none
theorem fSorted_eq : fSorted = fSortedI := by
  funext xs
  unfold fSorted fSortedI
  first
    | (simp only [mergeSort_isort]; done)
    | (simp only [mergeSort_isort]; rfl)
section
variable {st s1 s2 s3 : DSt} {g ga gb gc : DSt → Option (D × DSt)} {gs gr : DSt → Option (List D × DSt)} {h1 h2 : DSt → Option Out} {gt gu : DSt → Option (Bool × DSt)} {a b c d e : D} {ds es : List D} {f : D → D → Option D} {S : Sem'} {i : Nat} {o : Out} {x y : Bool}
theorem sSeq_nx (h : h1 st = some (.nx s1)) : sSeq h1 h2 st = h2 s1 := by
  unfold sSeq
  rw [h]
  rfl
theorem sSeq_ret (h : h1 st = some (.ret d s1)) : sSeq h1 h2 st = some (.ret d s1) := by
  unfold sSeq
  rw [h]
  rfl
theorem sFor_nx {gi : DSt → Option (List D × DSt)} {gt : D → DSt → Option DSt} {gb : DSt → Option Out} (h : gi st = some (ds, s1)) (h2 : loopL gt gb ds s1 = some (.nx s2)) : sFor gi gt gb st = some (.nx s2) := by
  unfold sFor
  rw [h, Option.bind_some, h2]
theorem sSet_nx (h : g st = some (d, s1)) : sSet i g st = some (.nx (s1.set i (some d))) := by
  unfold sSet
  rw [h]
  rfl
theorem sExp_nx (h : g st = some (d, s1)) : sExp g st = some (.nx s1) := by
  unfold sExp
  rw [h]
  rfl
theorem sRet_of (h : g st = some (d, s1)) : sRet g st = some (.ret d s1) := by
  unfold sRet
  rw [h]
  rfl
theorem sIf_t (h : gt st = some (true, s1)) : sIf gt h1 h2 st = h1 s1 := by
  unfold sIf
  rw [h]
  rfl
theorem sIf_f (h : gt st = some (false, s1)) : sIf gt h1 h2 st = h2 s1 := by
  unfold sIf
  rw [h]
  rfl
theorem sAsg_nx {gt : D → DSt → Option DSt} (h : g st = some (d, s1)) (h2 : gt d s1 = some s2) : sAsg g gt st = some (.nx s2) := by
  unfold sAsg
  rw [h, Option.bind_some, h2]
  rfl
theorem sStore_nx {gp : DSt → Option (D × (D → D))} {gk ge : DSt → Option (D × DSt)} {put : D → D} {k : D} {s4 : DSt} (h : ge st = some (a, s1)) (h2 : gp s1 = some (b, put)) (h3 : gk s1 = some (k, s4)) (h4 : putAtD b k a = some d) : sStore i gp gk ge st = some (.nx (s1.set i (some (put d)))) := by
  unfold sStore
  rw [h, Option.bind_some, h2, Option.bind_some, h3, Option.bind_some, h4]
  rfl
theorem gSeq_of (h : g st = some (d, s1)) (h2 : itemsOf d = some ds) : gSeq g st = some (ds, s1) := by
  unfold gSeq
  rw [h, Option.bind_some, h2]
  rfl
theorem gItems_of {f : List D → Option (List D)} (h : gs st = some (es, s1)) (h2 : f es = some ds) : gItems f gs st = some (ds, s1) := by
  unfold gItems
  rw [h, Option.bind_some, h2]
  rfl
theorem gCall0_of (h : gs st = some (ds, s1)) (h2 : S ds = some (.val d, es)) : gCall0 S gs st = some (d, s1) := by
  unfold gCall0
  rw [h, Option.bind_some, h2]
  rfl
theorem gCall1_of (h0 : gVar i st = some (c, s2)) (h : gs st = some (ds, s1)) (h3 : s1[i]? = some (some a)) (h2 : S (a :: ds) = some (.val d, b :: es)) : gCall1 S i gs st = some (d, s1.set i (some b)) := by
  unfold gCall1
  rw [h0, Option.bind_some, h, Option.bind_some, h3]
  simp only [h2]
  rfl
theorem gCallK_of {π : List Nat} {fs us ws : List D} (h : gs st = some (us, s1)) (h' : gr s1 = some (ws, s2)) (h2 : S (perm π (us ++ ws)) = some (.val d, es)) : gCallK S π gs gr st = some (d, s2) := by
  unfold gCallK
  rw [h, Option.bind_some, h', Option.bind_some, h2]
  rfl
theorem tB_of (h : g st = some (.bl x, s1)) : tB g st = some (x, s1) := by
  unfold tB
  rw [h]
  rfl
theorem tTru_of (h : g st = some (d, s1)) (h2 : tru d = some x) : tTru g st = some (x, s1) := by
  unfold tTru
  rw [h, Option.bind_some, h2]
  rfl
theorem tNot_of (h : gt st = some (x, s1)) : tNot gt st = some (!x, s1) := by
  unfold tNot
  rw [h]
  rfl
theorem tOr_t (h : gt st = some (true, s1)) : tOr gt gu st = some (true, s1) := by
  unfold tOr
  rw [h]
  rfl
theorem tOr_f (h : gt st = some (false, s1)) : tOr gt gu st = gu s1 := by
  unfold tOr
  rw [h]
  rfl
theorem tAnd_t (h : gt st = some (true, s1)) : tAnd gt gu st = gu s1 := by
  unfold tAnd
  rw [h]
  rfl
theorem tAnd_f (h : gt st = some (false, s1)) : tAnd gt gu st = some (false, s1) := by
  unfold tAnd
  rw [h]
  rfl
theorem g1_of {f : D → Option D} (h : g st = some (a, s1)) (h2 : f a = some d) : g1 f g st = some (d, s1) := by
  unfold g1
  rw [h, Option.bind_some, h2]
  rfl
theorem g2_of (ha : ga st = some (a, s1)) (hb : gb s1 = some (b, s2)) (h : f a b = some d) : g2 f ga gb st = some (d, s2) := by
  unfold g2
  rw [ha, Option.bind_some, hb, Option.bind_some, h]
  rfl
theorem gN_of {f : List D → Option D} (h : gs st = some (ds, s1)) (h2 : f ds = some d) : gN f gs st = some (d, s1) := by
  unfold gN
  rw [h, Option.bind_some, h2]
  rfl
theorem gCons_of (h : g st = some (d, s1)) (h2 : gr s1 = some (ds, s2)) : gCons g gr st = some (d :: ds, s2) := by
  unfold gCons
  rw [h, Option.bind_some, h2]
  rfl
theorem gNil_of : gNil st = some ([], st) := rfl
theorem gPure_of : gPure d st = some (d, st) := rfl
theorem gVar_of (h : st[i]? = some (some d)) : gVar i st = some (d, st) := by
  unfold gVar
  rw [h]
theorem gImm_of (h : g st = some (d, s1)) (h2 : d.imm = true) : gImm g st = some (d, s1) := by
  unfold gImm
  rw [h, Option.bind_some, if_pos h2]
theorem gIf_t (h : gt st = some (true, s1)) : gIf gt ga gb st = ga s1 := by
  unfold gIf
  rw [h]
  rfl
theorem gIf_f (h : gt st = some (false, s1)) : gIf gt ga gb st = gb s1 := by
  unfold gIf
  rw [h]
  rfl
theorem gOrV_t (h : ga st = some (.bl true, s1)) : gOrV ga gb st = some (.bl true, s1) := by
  unfold gOrV
  rw [h]
  rfl
theorem gOrV_f (h : ga st = some (.bl false, s1)) : gOrV ga gb st = gb s1 := by
  unfold gOrV
  rw [h]
  rfl
theorem gLc_of {vs : List Nat} {gi : DSt → Option (List D × DSt)} {gt : D → DSt → Option DSt} {gc : DSt → Option (Bool × DSt)} {ge : DSt → Option (D × DSt)} (h : gi st = some (ds, s1)) (h2 : lcL vs gt gc ge ds (wipeD s1 vs) = some (es, s2)) (h3 : es.length ≤ 1000000) : gLc vs gi gt gc ge st = some (.lst es, backD vs s1 s2) := by
  unfold gLc
  rw [h, Option.bind_some, h2, Option.bind_some, if_pos (by unfold lenB; exact decide_eq_true h3)]
theorem gAppend_of {gp : DSt → Option (D × (D → D))} {put : D → D} (h : gp st = some (.lst ds, put)) (h2 : g st = some (d, s1)) (h3 : ds.length < 1000000) : gAppend i gp g st = some (.non, s1.set i (some (put (.lst (ds ++ [d]))))) := by
  unfold gAppend
  rw [h, Option.bind_some, h2, Option.bind_some]
  show (if ds.length < 1000000 then _ else _) = _
  rw [if_pos h3]
theorem gPop_of {gp : DSt → Option (D × (D → D))} {put : D → D} (h : gp st = some (.lst ds, put)) (h2 : ds.getLast? = some d) (h3 : d.imm = true) : gPop i gp st = some (d, st.set i (some (put (.lst ds.dropLast)))) := by
  unfold gPop
  rw [h, Option.bind_some]
  simp only [h2, h3, if_true]
theorem pKey_of {gp : DSt → Option (D × (D → D))} {put : D → D} {n : Bool} {kvs : List (D × D)} {k : D} (h : gp st = some (.dct n kvs, put)) (h2 : g st = some (k, s1)) (h3 : keyB n k = true) (h4 : aGet kvs k = some d) : pKey gp g st = some (d, fun d' => put (.dct n (aPut kvs k d'))) := by
  unfold pKey
  rw [h, Option.bind_some, h2, Option.bind_some]
  show (if keyB n k = true then _ else _) = _
  rw [if_pos h3, h4]
  rfl
theorem pName_of (h : st[i]? = some (some d)) : pName i st = some (d, id) := by
  unfold pName
  rw [h]
theorem gSlice_of {gl gh : DSt → Option (Option Int × DSt)} {lo hi : Option Int} (h : g st = some (a, s1)) (h1 : gl s1 = some (lo, s2)) (h2 : gh s2 = some (hi, s3)) (h3 : fSlice a lo hi = some d) : gSlice g gl gh st = some (d, s3) := by
  unfold gSlice
  rw [h, Option.bind_some, h1, Option.bind_some, h2, Option.bind_some, h3]
  rfl
theorem semB_val {N : List Str} {np : Nat} {Ma : List Nat} {gb : DSt → Option Out} (hl : ds.length = np) (he : entry N ds = s1) (h : gb s1 = some (.ret d st)) (ho : outs Ma ds st = some es) : semB N np Ma gb ds = some (.val d, es) := by
  unfold semB
  rw [if_pos hl, he, h]
  show (outs Ma ds st).map _ = _
  rw [ho]
  rfl
/-! ### loops -/
theorem loop_to {gt : D → DSt → Option DSt} {gb : DSt → Option Out} (R : Nat → DSt → Prop) : ∀ {ds : List D} {k : Nat} {st : DSt}, (∀ i d st, ds[i]? = some d → R (k + i) st → ∃ s1 s2, gt d st = some s1 ∧ gb s1 = some (.nx s2) ∧ R (k + i + 1) s2) → R k st → ∃ st', loopL gt gb ds st = some (.nx st') ∧ R (k + ds.length) st'
  | [], k, st, h, r => ⟨st, rfl, r⟩
  | d :: ds, k, st, h, r => by
    obtain ⟨s1, s2, e1, e2, r2⟩ := h 0 d st rfl r
    have := loop_to R (ds := ds) (k := k + 1) (st := s2) (fun i d st hi r => by
      obtain ⟨a, b, c⟩ := h (i + 1) d st hi (by rw [show k + (i + 1) = k + 1 + i by omega]; exact r)
      refine ⟨a, b, ?_⟩
      rw [show k + 1 + i + 1 = k + (i + 1) + 1 by omega]
      exact c) r2
    obtain ⟨st', e, r'⟩ := this
    refine ⟨st', ?_, by rw [List.length_cons, show k + (ds.length + 1) = k + 1 + ds.length by omega]; exact r'⟩
    unfold loopL
    rw [e1, Option.bind_some, e2, Option.bind_some]
    exact e
theorem lcL_pure {vs : List Nat} {gt : D → DSt → Option DSt} {gc : DSt → Option (Bool × DSt)} {ge : DSt → Option (D × DSt)} {s : DSt} (p : D → Bool) (f : D → D) : ∀ {ds : List D}, (∀ d ∈ ds, ∃ s1, gt d s = some s1 ∧ gc s1 = some (p d, s1) ∧ (p d = true → ge s1 = some (f d, s1)) ∧ wipeD s1 vs = s) → lcL vs gt gc ge ds s = some ((ds.filter p).map f, s)
  | [], h => rfl
  | d :: ds, h => by
    obtain ⟨s1, e1, e2, e3, e4⟩ := h d (List.mem_cons_self ..)
    unfold lcL
    rw [e1, Option.bind_some, e2, Option.bind_some]
    have ih := lcL_pure p f (ds := ds) (fun x hx => h x (List.mem_cons_of_mem _ hx))
    cases hp : p d with
    | true =>
      rw [if_pos rfl, e3 hp, Option.bind_some]
      show (lcL vs gt gc ge ds (wipeD s1 vs)).map _ = _
      rw [e4, ih, Option.map_some, List.filter_cons_of_pos hp]
      rfl
    | false =>
      rw [if_neg (by simp)]
      show lcL vs gt gc ge ds (wipeD s1 vs) = _
      rw [e4, ih, List.filter_cons_of_neg (by simp [hp])]
end
end VL

/-! The draws of the laws' own urn. -/
namespace VL
open PySem D
abbrev sDeep : D := .str "deep"
abbrev sState : D := .str "state"
def urnD (ds : List Int) (s : Int) : D := .dct false [(sDeep, .lst (ds.map .int)), (sState, .int s)]
structure UrnOk (ds : List Int) (s : Int) : Prop where
  len : ds.length ≤ 63
  pos : ∀ d ∈ ds, 0 ≤ d
  lo : 0 ≤ s
  hi : s < 2305843009213693951
theorem ne1 : ¬ sDeep = sState := by
  intro h
  injection h with h
  exact absurd h (by decide)
theorem ne2 : ¬ sState = sDeep := fun h => ne1 h.symm
theorem get_deep {ds : List Int} {s : Int} : aGet [(sDeep, D.lst (ds.map D.int)), (sState, D.int s)] sDeep = some (.lst (ds.map .int)) := by
  unfold aGet
  rw [if_pos rfl]
theorem get_state {x : D} {s : Int} : aGet [(sDeep, x), (sState, D.int s)] sState = some (.int s) := by
  unfold aGet
  rw [if_neg ne1]
  unfold aGet
  rw [if_pos rfl]
theorem put_deep {x y z : D} : aPut [(sDeep, x), (sState, y)] sDeep z = [(sDeep, z), (sState, y)] := by
  unfold aPut
  rw [if_pos rfl]
theorem put_state {x y z : D} : aPut [(sDeep, x), (sState, y)] sState z = [(sDeep, x), (sState, z)] := by
  unfold aPut
  rw [if_neg ne1]
  unfold aPut
  rw [if_pos rfl]
theorem key_deep : keyB false sDeep = true := rfl
theorem key_state : keyB false sState = true := rfl
theorem ix_deep {ds : List Int} {s : Int} : aIx (urnD ds s) sDeep = some (.lst (ds.map .int)) := by
  show fIxDct (urnD ds s) sDeep = _
  unfold urnD fIxDct
  simp only [key_deep, if_true]
  exact get_deep
theorem ix_state {ds : List Int} {s : Int} : aIx (urnD ds s) sState = some (.int s) := by
  show fIxDct (urnD ds s) sState = _
  unfold urnD fIxDct
  simp only [key_state, if_true]
  exact get_state
theorem toPs_ints : ∀ ds : List Int, toPs (ds.map .int) = some (ds.map .int)
  | [] => rfl
  | d :: ds => by
    rw [List.map_cons, toPs, toPs_ints ds]
    rfl
theorem lay_ints : ∀ ds : List Int, PyData.canLayAll0 (ds.map .int) = true
  | [] => rfl
  | d :: ds => by
    rw [List.map_cons, PyData.canLayAll0, lay_ints ds]
    rfl
theorem depth_ints : ∀ ds : List Int, PyData.depthAll (ds.map .int) = 0
  | [] => by simp [PyData.depthAll]
  | d :: ds => by
    rw [List.map_cons, PyData.depthAll, depth_ints ds]
    simp [PyData.depth]
theorem shaped_lst (ds : List Int) : SeqAt.shaped (.list (ds.map .int)) = true := by
  unfold SeqAt.shaped
  rw [PyData.canLay0, lay_ints, PyData.depth, depth_ints]
  rfl
theorem shaped_tup (ds : List Int) : SeqAt.shaped (.tuple (ds.map .int)) = true := by
  unfold SeqAt.shaped
  rw [PyData.canLay0, lay_ints, PyData.depth, depth_ints]
  rfl
theorem toP_lst (ds : List Int) : toP (.lst (ds.map .int)) = some (.list (ds.map .int)) := by
  rw [toP, toPs_ints]
theorem ne_nil (ds : List Int) : fNe (.lst (ds.map .int)) (.lst []) = some (.bl (!ds.isEmpty)) := by
  have e : toP (.lst []) = some (.list []) := rfl
  unfold fNe
  rw [toP_lst, e]
  simp only [shaped_lst, show SeqAt.shaped (.list []) = true from shaped_lst [], Bool.and_self, if_true]
  cases ds with
  | nil => simp [PyData.eqv, PyData.eqvAll]
  | cons d ds => simp [PyData.eqv, PyData.eqvAll]
/-! ### whole numbers -/
theorem mulR {i j : Int} (h : j.natAbs < 2 ^ 64) : aMul (.int i) (.int j) = some (.int (i * j)) := by
  have : fMul (.int i) (.int j) = some (.int (i * j)) := by
    unfold fMul fIIc
    simp only [mulB, h, decide_true, Bool.true_or, Bool.or_true, if_true]
  show (match fMul (.int i) (.int j) with
    | some z => some z
    | none => _) = _
  rw [this]
theorem mulL {i j : Int} (h : i.natAbs < 2 ^ 64) : aMul (.int i) (.int j) = some (.int (i * j)) := by
  have : fMul (.int i) (.int j) = some (.int (i * j)) := by
    unfold fMul fIIc
    simp only [mulB, h, decide_true, Bool.true_or, if_true]
  show (match fMul (.int i) (.int j) with
    | some z => some z
    | none => _) = _
  rw [this]
theorem addI {i j : Int} : aAdd (.int i) (.int j) = some (.int (i + j)) := rfl
theorem modI {i j : Int} (h : 0 < j) : fMod (.int i) (.int j) = some (.int (i % j)) := by
  unfold fMod fIIc
  simp only [h, decide_true, if_true]
theorem divI {i j : Int} (h : 0 < j) (h2 : j.natAbs.log2 < 9000) : fDiv (.int i) (.int j) = some (.int (i / j)) := by
  unfold fDiv fIIc
  simp only [h, h2, decide_true, Bool.and_self, if_true]
theorem ltI {i j : Int} : fLt (.int i) (.int j) = some (.bl (decide (i < j))) := rfl
theorem geI {i j : Int} : fGe (.int i) (.int j) = some (.bl (decide (j ≤ i))) := rfl
theorem log64 {n : Nat} (h : n < 2 ^ 64) : n.log2 < 9000 := by
  by_cases h0 : n = 0
  · subst h0
    decide
  · have := (Nat.log2_lt h0).mpr h
    omega
/-! ### a draw -/
def gbTake : DSt → Option Out :=
    (sSeq (sIf (tB (g2 fLt (gVar 1) (gPure (.int 2)))) (sRet (gPure (.int 0))) sNext)
    (sSeq (sIf (tB (g2 fNe (g2 aIx (gVar 0) (gPure (.str "deep"))) (gN fLst gNil))) (sSeq (sSet 3 (gPop 0 (pKey (pName 0) (gPure (.str "deep")))))
    (sSeq (sIf (tB (g2 fGe (gVar 3) (gVar 1))) (sExp (gAppend 0 (pKey (pName 0) (gPure (.str "deep"))) (g2 fDiv (gVar 3) (gVar 1)))) sNext)
    (sRet (g2 fMod (gN fInt (gCons (gVar 3) gNil)) (gVar 1))))) sNext)
    (sSeq (sSet 2 (g2 fMod (gN fInt (gCons (g2 aAdd (g2 aMul (g2 aIx (gVar 0) (gPure (.str "state"))) (gPure (.int 2862933555777941757))) (gPure (.int 3037000493))) gNil)) (gPure (.int 2305843009213693951))))
    (sSeq (sStore 0 (pName 0) (gPure (.str "state")) (gImm (gVar 2)))
    (sRet (g2 fMod (gN fInt (gCons (g2 fDiv (g2 fMod (gN fInt (gCons (g2 aAdd (g2 aMul (gVar 2) (gVar 2)) (g2 aMul (gPure (.int 362436069)) (gVar 2))) gNil)) (gPure (.int 2305843009213693921))) (gPure (.int 4194304))) gNil)) (gVar 1)))))))
def Drawn (many : Nat) (c : Int) : Prop := 0 ≤ c ∧ (c < many ∨ c = 0)
theorem take_low {u : D} {m : Int} (h : m < 2) : gbTake [some u, some (.int m), none, none] = some (.ret (.int 0) [some u, some (.int m), none, none]) := by
  unfold gbTake
  refine sSeq_ret ?_
  rw [sIf_t (tB_of (g2_of rfl rfl (by rw [ltI, decide_eq_true h])))]
  rfl
theorem take_pop {ds : List Int} {s w : Int} {m : Nat} (h : 2 ≤ m) (hm : m < 2 ^ 64) (hl : ds.length < 63) : ∃ ds' st, gbTake [some (urnD (ds ++ [w]) s), some (.int m), none, none] = some (.ret (.int (w % m)) (some (urnD ds' s) :: some (.int m) :: st)) ∧ (ds' = ds ∨ ds' = ds ++ [w / m]) := by
  have e1 : gPop 0 (pKey (pName 0) (gPure sDeep)) [some (urnD (ds ++ [w]) s), some (.int m), none, none] = some (.int w, [some (urnD ds s), some (.int m), none, none]) := by
    rw [gPop_of (pKey_of (pName_of rfl) gPure_of key_deep get_deep) (d := .int w) (by simp) rfl, put_deep]
    simp [urnD]
  by_cases hw : (m : Int) ≤ w
  · have e2 : gAppend 0 (pKey (pName 0) (gPure (.str "deep"))) (g2 fDiv (gVar 3) (gVar 1)) [some (urnD ds s), some (.int m), none, some (.int w)] = some (.non, [some (urnD (ds ++ [w / m]) s), some (.int m), none, some (.int w)]) := by
      rw [gAppend_of (pKey_of (pName_of rfl) gPure_of key_deep get_deep) (g2_of rfl rfl (divI (by omega) (log64 (by omega)))) (by rw [List.length_map]; omega), put_deep]
      simp [urnD]
    refine ⟨ds ++ [w / m], [none, some (.int w)], ?_, .inr rfl⟩
    unfold gbTake
    rw [sSeq_nx (s1 := [some (urnD (ds ++ [w]) s), some (.int m), none, none]) (by rw [sIf_f (tB_of (g2_of rfl rfl (by rw [ltI, decide_eq_false (by omega)])))]; rfl)]
    refine sSeq_ret ?_
    rw [sIf_t (tB_of (g2_of (g2_of rfl rfl ix_deep) rfl (by rw [ne_nil]; simp)))]
    rw [sSeq_nx (sSet_nx e1)]
    rw [sSeq_nx (s1 := [some (urnD (ds ++ [w / m]) s), some (.int m), none, some (.int w)])]
    · exact sRet_of (g2_of (gN_of (gCons_of rfl rfl) rfl) rfl (modI (by omega)))
    · rw [sIf_t (tB_of (g2_of rfl rfl (by rw [geI, decide_eq_true hw])))]
      exact sExp_nx e2
  · refine ⟨ds, [none, some (.int w)], ?_, .inl rfl⟩
    unfold gbTake
    rw [sSeq_nx (s1 := [some (urnD (ds ++ [w]) s), some (.int m), none, none]) (by rw [sIf_f (tB_of (g2_of rfl rfl (by rw [ltI, decide_eq_false (by omega)])))]; rfl)]
    refine sSeq_ret ?_
    rw [sIf_t (tB_of (g2_of (g2_of rfl rfl ix_deep) rfl (by rw [ne_nil]; simp)))]
    rw [sSeq_nx (sSet_nx e1)]
    rw [sSeq_nx (s1 := [some (urnD ds s), some (.int m), none, some (.int w)])]
    · exact sRet_of (g2_of (gN_of (gCons_of rfl rfl) rfl) rfl (modI (by omega)))
    · rw [sIf_f (tB_of (g2_of rfl rfl (by rw [geI, decide_eq_false hw])))]
      rfl
def gbTakeP (A B M C N L : Int) : DSt → Option Out :=
    (sSeq (sIf (tB (g2 fLt (gVar 1) (gPure (.int 2)))) (sRet (gPure (.int 0))) sNext)
    (sSeq (sIf (tB (g2 fNe (g2 aIx (gVar 0) (gPure (.str "deep"))) (gN fLst gNil))) (sSeq (sSet 3 (gPop 0 (pKey (pName 0) (gPure (.str "deep")))))
    (sSeq (sIf (tB (g2 fGe (gVar 3) (gVar 1))) (sExp (gAppend 0 (pKey (pName 0) (gPure (.str "deep"))) (g2 fDiv (gVar 3) (gVar 1)))) sNext)
    (sRet (g2 fMod (gN fInt (gCons (gVar 3) gNil)) (gVar 1))))) sNext)
    (sSeq (sSet 2 (g2 fMod (gN fInt (gCons (g2 aAdd (g2 aMul (g2 aIx (gVar 0) (gPure (.str "state"))) (gPure (.int A))) (gPure (.int B))) gNil)) (gPure (.int M))))
    (sSeq (sStore 0 (pName 0) (gPure (.str "state")) (gImm (gVar 2)))
    (sRet (g2 fMod (gN fInt (gCons (g2 fDiv (g2 fMod (gN fInt (gCons (g2 aAdd (g2 aMul (gVar 2) (gVar 2)) (g2 aMul (gPure (.int C)) (gVar 2))) gNil)) (gPure (.int N))) (gPure (.int L))) gNil)) (gVar 1)))))))
theorem set_state {u : List Int} {s t : Int} : putAtD (urnD u s) sState (.int t) = some (urnD u t) := by
  unfold urnD putAtD
  simp only [key_state, put_state, List.length_cons, List.length_nil]
  rfl
theorem take_stateP {A B M C N L s t : Int} {m : Nat} (h : 2 ≤ m) (hA : A.natAbs < 2 ^ 64) (hM : 0 < M) (hC : C.natAbs < 2 ^ 64) (hN : 0 < N) (hL : 0 < L) (hL2 : L.natAbs < 2 ^ 64) (ht : t = (s * A + B) % M) (tb : t.natAbs < 2 ^ 64) :
    gbTakeP A B M C N L [some (urnD [] s), some (.int m), none, none] = some (.ret (.int (((t * t + C * t) % N / L) % m)) [some (urnD [] t), some (.int m), some (.int t), none]) := by
  have e0 : g2 fMod (gN fInt (gCons (g2 aAdd (g2 aMul (g2 aIx (gVar 0) (gPure (.str "state"))) (gPure (.int A))) (gPure (.int B))) gNil)) (gPure (.int M)) [some (urnD [] s), some (.int m), none, none] = some (.int t, [some (urnD [] s), some (.int m), none, none]) :=
    g2_of (gN_of (gCons_of (g2_of (g2_of (g2_of (gVar_of rfl) gPure_of ix_state) gPure_of (mulR hA)) gPure_of addI) gNil_of) rfl) gPure_of (by rw [modI hM, ht])
  unfold gbTakeP
  rw [sSeq_nx (s1 := [some (urnD [] s), some (.int m), none, none]) (by rw [sIf_f (tB_of (g2_of (gVar_of rfl) gPure_of (by rw [ltI, decide_eq_false (by omega)])))]; rfl)]
  rw [sSeq_nx (s1 := [some (urnD [] s), some (.int m), none, none]) (by rw [sIf_f (tB_of (g2_of (g2_of (gVar_of rfl) gPure_of ix_deep) rfl (by rw [ne_nil]; rfl)))]; rfl)]
  rw [sSeq_nx (sSet_nx e0)]
  rw [sSeq_nx (s1 := [some (urnD [] t), some (.int m), some (.int t), none])]
  · exact sRet_of (g2_of (gN_of (gCons_of (g2_of (g2_of (gN_of (gCons_of (g2_of (g2_of (gVar_of rfl) (gVar_of rfl) (mulR tb)) (g2_of gPure_of (gVar_of rfl) (mulL hC)) addI) gNil_of) rfl) gPure_of (modI hN)) gPure_of (divI hL (log64 hL2))) gNil_of) rfl) (gVar_of rfl) (modI (by omega)))
  · exact sStore_nx (gImm_of (gVar_of rfl) rfl) (pName_of rfl) gPure_of set_state
theorem gbTake_P : gbTake = gbTakeP 2862933555777941757 3037000493 2305843009213693951 362436069 2305843009213693921 4194304 := rfl
theorem take_state {s : Int} {m : Nat} (h : 2 ≤ m) (h0 : 0 ≤ s) (h1 : s < 2305843009213693951) : ∃ s' c st, gbTake [some (urnD [] s), some (.int m), none, none] = some (.ret (.int c) (some (urnD [] s') :: some (.int m) :: st)) ∧ 0 ≤ c ∧ c < m ∧ 0 ≤ s' ∧ s' < 2305843009213693951 := by
  obtain ⟨t, ht⟩ : ∃ t : Int, t = (s * 2862933555777941757 + 3037000493) % 2305843009213693951 := ⟨_, rfl⟩
  have t0 : 0 ≤ t := by rw [ht]; exact Int.emod_nonneg _ (by decide)
  have t1 : t < 2305843009213693951 := by rw [ht]; exact Int.emod_lt_of_pos _ (by decide)
  have tb : t.natAbs < 2 ^ 64 := by omega
  exact ⟨t, _, _, by rw [gbTake_P]; exact take_stateP h (by decide) (by decide) (by decide) (by decide) (by decide) (by decide) ht tb, Int.emod_nonneg _ (by omega), Int.emod_lt_of_pos _ (by omega), t0, t1⟩
theorem take_at {ds : List Int} {s : Int} {m : Nat} (hm : m < 2 ^ 64) (u : UrnOk ds s) : ∃ (ds' : List Int) (s' : Int) (c : Nat), UrnOk ds' s' ∧ (c < m ∨ c = 0) ∧ semB ["urn", "many", "state", "whole"] 2 [0] gbTake [urnD ds s, .int m] = some (.val (.int c), [urnD ds' s', .int m]) := by
  by_cases h : m < 2
  · exact ⟨ds, s, 0, u, .inr rfl, semB_val rfl rfl (take_low (by omega)) rfl⟩
  rcases List.eq_nil_or_concat ds with rfl | ⟨es, w, rfl⟩
  · obtain ⟨s', c, st, e, c0, c1, s0, s1⟩ := take_state (s := s) (m := m) (by omega) u.lo u.hi
    obtain ⟨k, rfl⟩ := Int.eq_ofNat_of_zero_le c0
    exact ⟨[], s', k, ⟨by simp, by simp, s0, s1⟩, .inl (by omega), semB_val rfl rfl e rfl⟩
  · have hl := u.len
    rw [List.concat_eq_append] at hl
    simp only [List.length_append, List.length_singleton] at hl
    obtain ⟨ds', st, e, hd⟩ := take_pop (ds := es) (s := s) (w := w) (m := m) (by omega) hm (by omega)
    have hp := u.pos
    have hw : 0 ≤ w := hp w (by simp)
    have c0 : 0 ≤ w % (m : Int) := Int.emod_nonneg _ (by omega)
    have c1 : w % (m : Int) < m := Int.emod_lt_of_pos _ (by omega)
    obtain ⟨k, hk⟩ := Int.eq_ofNat_of_zero_le c0
    rw [hk] at e c1
    rw [← List.concat_eq_append] at e
    refine ⟨ds', s, k, ⟨?_, ?_, u.lo, u.hi⟩, .inl (by omega), semB_val rfl rfl e rfl⟩
    · rcases hd with rfl | rfl
      · omega
      · simp; omega
    · intro d hd'
      rcases hd with rfl | rfl
      · exact hp d (by simp [hd'])
      · rcases List.mem_append.mp hd' with q | q
        · exact hp d (by simp [q])
        · rw [List.mem_singleton.mp q]
          exact Int.ediv_nonneg hw (by omega)
end VL

namespace VL
open PySem D
def bodyUrn (T H A B M : Int) : DSt → Option Out := (sSeq (sIf (tB (g2 fGe (gN fAbs (gCons (gVar 2) gNil)) (g2 fPow (gPure (.int T)) (gPure (.int H))))) (sExp (gAppend 1 (pKey (pName 1) (gPure (.str "deep"))) (gN fAbs (gCons (gVar 2) gNil)))) sNext)
    (sSeq (sSet 3 (g2 aAdd (g2 aMul (gPure (.int 2)) (gN fAbs (gCons (gVar 2) gNil))) (gN fInt (gCons (g2 fLt (gVar 2) (gPure (.int 0))) gNil))))
    (sStore 1 (pName 1) (gPure (.str "state")) (g2 fMod (gN fInt (gCons (g2 aAdd (g2 aMul (g2 aAdd (g2 aAdd (g2 aIx (gVar 1) (gPure (.str "state"))) (gVar 3)) (gPure (.int 1))) (gPure (.int A))) (gPure (.int B))) gNil)) (gPure (.int M))))))
def gbUrn (seed T H A B M : Int) : DSt → Option Out :=
    (sSeq (sSet 1 (gDisp false (gkCons (gPure (.str "deep")) (gN fLst gNil) (gkCons (gPure (.str "state")) (g2 aAdd (gPure (.int seed)) (gN aLen (gCons (gSlice (gVar 0) oNone (oSome (gPure (.int 63)))) gNil))) gkNil))))
    (sSeq (sFor (gSeq (gSlice (gVar 0) oNone (oSome (gPure (.int 63))))) (nName 2) (bodyUrn T H A B M))
    (sRet (gVar 1))))
theorem powB {T H : Int} (h1 : 0 ≤ H) (h2 : H ≤ 1000000) (h3 : T.natAbs < 2 ^ 64) : fPow (.int T) (.int H) = some (.int (T ^ H.toNat)) := by
  unfold fPow fIIc
  simp only [h1, h2, h3, decide_true, Bool.and_self, if_true]
theorem body_urn {T H A B M n s : Int} {ds : List Int} {d0 c o : Option D} (hH : 0 ≤ H) (hH2 : H ≤ 1000000) (hT : T.natAbs < 2 ^ 64) (hA : A.natAbs < 2 ^ 64) (hM : 0 < M) (hl : ds.length < 63) (hp : ∀ d ∈ ds, 0 ≤ d) :
    ∃ ds' s' o', bodyUrn T H A B M [d0, some (urnD ds s), some (.int n), o] = some (.nx [d0, some (urnD ds' s'), some (.int n), o']) ∧ ds'.length ≤ ds.length + 1 ∧ (∀ d ∈ ds', 0 ≤ d) ∧ 0 ≤ s' ∧ s' < M := by
  let ab : Int := if n < 0 then -n else n
  have ab0 : 0 ≤ ab := by
    show 0 ≤ (if n < 0 then -n else n)
    split <;> omega
  obtain ⟨ds', e1, hl', hp'⟩ : ∃ ds', sIf (tB (g2 fGe (gN fAbs (gCons (gVar 2) gNil)) (g2 fPow (gPure (.int T)) (gPure (.int H))))) (sExp (gAppend 1 (pKey (pName 1) (gPure (.str "deep"))) (gN fAbs (gCons (gVar 2) gNil)))) sNext [d0, some (urnD ds s), some (.int n), o] = some (.nx [d0, some (urnD ds' s), some (.int n), o]) ∧ ds'.length ≤ ds.length + 1 ∧ ∀ d ∈ ds', 0 ≤ d := by
    have eb : tB (g2 fGe (gN fAbs (gCons (gVar 2) gNil)) (g2 fPow (gPure (.int T)) (gPure (.int H)))) [d0, some (urnD ds s), some (.int n), o] = some (decide (T ^ H.toNat ≤ ab), [d0, some (urnD ds s), some (.int n), o]) :=
      tB_of (g2_of (gN_of (gCons_of (gVar_of rfl) gNil_of) rfl) (g2_of gPure_of gPure_of (powB hH hH2 hT)) geI)
    by_cases hb : T ^ H.toNat ≤ ab
    · refine ⟨ds ++ [ab], ?_, by simp, fun d hd => ?_⟩
      · rw [decide_eq_true hb] at eb
        rw [sIf_t eb, sExp_nx (gAppend_of (pKey_of (pName_of rfl) gPure_of key_deep get_deep) (gN_of (gCons_of (gVar_of rfl) gNil_of) rfl) (by rw [List.length_map]; omega)), put_deep]
        simp [urnD, ab]
      · rcases List.mem_append.mp hd with q | q
        · exact hp d q
        · rw [List.mem_singleton.mp q]
          exact ab0
    · refine ⟨ds, ?_, by omega, hp⟩
      rw [decide_eq_false hb] at eb
      rw [sIf_f eb]
      rfl
  let own : Int := 2 * ab + (if decide (n < 0) then 1 else 0)
  refine ⟨ds', ((s + own + 1) * A + B) % M, some (.int own), ?_, hl', hp', Int.emod_nonneg _ (by omega), Int.emod_lt_of_pos _ hM⟩
  have e2 : g2 aAdd (g2 aMul (gPure (.int 2)) (gN fAbs (gCons (gVar 2) gNil))) (gN fInt (gCons (g2 fLt (gVar 2) (gPure (.int 0))) gNil)) [d0, some (urnD ds' s), some (.int n), o] = some (.int own, [d0, some (urnD ds' s), some (.int n), o]) :=
    g2_of (g2_of gPure_of (gN_of (gCons_of (gVar_of rfl) gNil_of) rfl) (mulL (by decide))) (gN_of (gCons_of (g2_of (gVar_of rfl) gPure_of ltI) gNil_of) rfl) addI
  have e3 : g2 fMod (gN fInt (gCons (g2 aAdd (g2 aMul (g2 aAdd (g2 aAdd (g2 aIx (gVar 1) (gPure (.str "state"))) (gVar 3)) (gPure (.int 1))) (gPure (.int A))) (gPure (.int B))) gNil)) (gPure (.int M)) [d0, some (urnD ds' s), some (.int n), some (.int own)] = some (.int (((s + own + 1) * A + B) % M), [d0, some (urnD ds' s), some (.int n), some (.int own)]) :=
    g2_of (gN_of (gCons_of (g2_of (g2_of (g2_of (g2_of (g2_of (gVar_of rfl) gPure_of ix_state) (gVar_of rfl) addI) gPure_of addI) gPure_of (mulR hA)) gPure_of addI) gNil_of) rfl) gPure_of (modI hM)
  unfold bodyUrn
  rw [sSeq_nx e1, sSeq_nx (sSet_nx e2)]
  exact sStore_nx e3 (pName_of rfl) gPure_of set_state
theorem imm_ints : ∀ ns : List Int, immL (ns.map .int) = true
  | [] => rfl
  | n :: ns => by
    rw [List.map_cons, D.immL, imm_ints ns]
    rfl
theorem slice63 {ns : List Int} (h : ns.length ≤ 63) : fSlice (.frl (ns.map .int)) none (some 63) = some (.lst (ns.map .int)) := by
  unfold fSlice
  simp only [imm_ints, if_true]
  unfold cutD
  have : HT.sIx (ns.map D.int).length (ns.map D.int).length (some 63) = ns.length := by
    rw [show (63 : Int) = ((63 : Nat) : Int) from rfl, HT.sIx_nat, List.length_map]
    omega
  rw [this, HT.sIx_none, Nat.sub_zero, List.drop_zero, List.take_of_length_le (by rw [List.length_map]; omega)]
theorem len_lst {ds : List D} (h : ds.length ≤ 1000) : aLen [.lst ds] = some (.int ds.length) := by
  rfl
theorem urn_at {seed T H A B M : Int} {ns : List Int} (h : ns.length ≤ 63) (hs0 : 0 ≤ seed) (hs1 : seed < 1000000) (hH : 0 ≤ H) (hH2 : H ≤ 1000000) (hT : T.natAbs < 2 ^ 64) (hA : A.natAbs < 2 ^ 64) (hM : M = 2305843009213693951) :
    ∃ ds s, UrnOk ds s ∧ semB ["script", "urn", "cell", "own"] 1 [] (gbUrn seed T H A B M) [.frl (ns.map .int)] = some (.val (urnD ds s), [.frl (ns.map .int)]) := by
  let d0 : Option D := some (.frl (ns.map .int))
  have sl : ∀ u c o, gSlice (gVar 0) oNone (oSome (gPure (.int 63))) [d0, u, c, o] = some (.lst (ns.map .int), [d0, u, c, o]) := fun u c o => gSlice_of (gVar_of rfl) rfl rfl (slice63 h)
  have e1 : gDisp false (gkCons (gPure (.str "deep")) (gN fLst gNil) (gkCons (gPure (.str "state")) (g2 aAdd (gPure (.int seed)) (gN aLen (gCons (gSlice (gVar 0) oNone (oSome (gPure (.int 63)))) gNil))) gkNil)) [d0, none, none, none] = some (urnD [] (seed + ns.length), [d0, none, none, none]) := by
    have e : g2 aAdd (gPure (.int seed)) (gN aLen (gCons (gSlice (gVar 0) oNone (oSome (gPure (.int 63)))) gNil)) [d0, none, none, none] = some (.int (seed + ns.length), [d0, none, none, none]) :=
      g2_of gPure_of (gN_of (gCons_of (sl _ _ _) gNil_of) (len_lst (by rw [List.length_map]; omega))) (by rw [List.length_map]; rfl)
    have e' : gkCons (gPure (.str "deep")) (gN fLst gNil) (gkCons (gPure (.str "state")) (g2 aAdd (gPure (.int seed)) (gN aLen (gCons (gSlice (gVar 0) oNone (oSome (gPure (.int 63)))) gNil))) gkNil) [d0, none, none, none] = some ([(sDeep, .lst []), (sState, .int (seed + ns.length))], [d0, none, none, none]) := by
      unfold gkCons
      simp only [gPure, gN, gNil, fLst, Option.bind_some, Option.map_some, List.length_nil, Nat.zero_le, if_true]
      rw [show (D.str "state").imm = true from rfl, show (D.str "deep").imm = true from rfl, if_pos rfl, if_pos rfl]
      rw [e]
      rfl
    unfold gDisp
    rw [e', Option.bind_some]
    refine (if_pos rfl).trans ?_
    unfold aPuts urnD
    simp only [List.foldl_cons, List.foldl_nil]
    rw [show aPut ([] : List (D × D)) sDeep (.lst []) = [(sDeep, .lst [])] from rfl]
    unfold aPut
    rw [if_neg ne1]
    rfl
  obtain ⟨st', e2, ds, s, c, o, rfl, hl, hp, h0, h1⟩ := loop_to (gt := nName 2) (gb := bodyUrn T H A B M) (fun j st => ∃ ds s c o, st = [d0, some (urnD ds s), c, o] ∧ ds.length ≤ j ∧ (∀ d ∈ ds, 0 ≤ d) ∧ 0 ≤ s ∧ s < M)
    (ds := ns.map .int) (k := 0) (st := [d0, some (urnD [] (seed + ns.length)), none, none]) (fun j d st hd r => by
      rw [Nat.zero_add] at r ⊢
      obtain ⟨ds, s, c, o, rfl, hl, hp, h0, h1⟩ := r
      rw [List.getElem?_map, Option.map_eq_some_iff] at hd
      obtain ⟨n, hd, rfl⟩ := hd
      have hj : j < ns.length := (List.getElem?_eq_some_iff.mp hd).1
      obtain ⟨ds', s', o', e, hl', hp', h0', h1'⟩ := body_urn (B := B) (n := n) (s := s) (d0 := d0) (c := c) (o := o) hH hH2 hT hA (show 0 < M by omega) (show ds.length < 63 by omega) hp
      exact ⟨_, _, rfl, e, ds', s', _, o', rfl, by omega, hp', h0', h1'⟩) ⟨[], _, none, none, rfl, by simp, by simp, by omega, by omega⟩
  rw [Nat.zero_add, List.length_map] at hl
  refine ⟨ds, s, ⟨by omega, hp, h0, by omega⟩, semB_val (st := [d0, some (urnD ds s), c, o]) rfl rfl ?_ rfl⟩
  unfold gbUrn
  refine (sSeq_nx (sSet_nx e1)).trans ?_
  refine (sSeq_nx (sFor_nx (gSeq_of (sl _ _ _) rfl) e2)).trans ?_
  exact sRet_of (gVar_of rfl)
end VL

namespace K30
open PySem PySem.Spec L2 VL VL.D
open PyProof.Rows (envOfC)
def top (i : Nat) : Stmt := PySem.Challenge.pw_liftedties_k30_whole_kinds_that_have_web.main.body.getD i (.Pass ⟨0, 0, 0, 0⟩)
/-! ### _law_urn -/
abbrev s__law_urn : Stmt := top 5
abbrev N__law_urn : List Str := ["script", "urn", "cell", "own"]
abbrev p__law_urn : List Str := ["script"]
theorem bd__law_urn : BdP "_law_urn" s__law_urn p__law_urn := fun _ _ _ _ _ _ us hl => match us, hl with | [_], _ => rfl
theorem sc__law_urn : FnScope N__law_urn p__law_urn (defScope s__law_urn) := ⟨rfl, rfl, rfl, by decide +kernel, rfl, by decide +kernel, by decide +kernel⟩
def gb__law_urn : DSt → Option Out :=
    (sSeq (sSet 1 (gDisp false (gkCons (gPure (.str "deep")) (gN fLst gNil) (gkCons (gPure (.str "state")) (g2 aAdd (gPure (.int 283411)) (gN aLen (gCons (gSlice (gVar 0) oNone (oSome (gPure (.int 63)))) gNil))) gkNil))))
    (sSeq (sFor (gSeq (gSlice (gVar 0) oNone (oSome (gPure (.int 63))))) (nName 2) (sSeq (sIf (tB (g2 fGe (gN fAbs (gCons (gVar 2) gNil)) (g2 fPow (gPure (.int 10)) (gPure (.int 18))))) (sExp (gAppend 1 (pKey (pName 1) (gPure (.str "deep"))) (gN fAbs (gCons (gVar 2) gNil)))) sNext)
    (sSeq (sSet 3 (g2 aAdd (g2 aMul (gPure (.int 2)) (gN fAbs (gCons (gVar 2) gNil))) (gN fInt (gCons (g2 fLt (gVar 2) (gPure (.int 0))) gNil))))
    (sStore 1 (pName 1) (gPure (.str "state")) (g2 fMod (gN fInt (gCons (g2 aAdd (g2 aMul (g2 aAdd (g2 aAdd (g2 aIx (gVar 1) (gPure (.str "state"))) (gVar 3)) (gPure (.int 1))) (gPure (.int 2862933555777941757))) (gPure (.int 3037000493))) gNil)) (gPure (.int 2305843009213693951)))))))
    (sRet (gVar 1))))
def S__law_urn : Sem' := semB N__law_urn 1 [] gb__law_urn
theorem ok__law_urn {G : Gd} {mg : Str → Option Value} {base : Heap} {f : Addr} {fd : FuncData} (Fu : Fun G.K "_law_urn" "_law_urn" s__law_urn f fd) (hm : mg "_law_urn" = some (.ref f)) (b_len : mg "len" = none) (b_abs : mg "abs" = none) (b_int : mg "int" = none) : DefOk G mg base 1 "_law_urn" s__law_urn p__law_urn [] S__law_urn :=
  def_ok (k := 0) (M := [1]) (O := [1]) (gb := gb__law_urn) Fu hm sc__law_urn (by decide) (by rfl) (by decide) fun cdv A outer s H c =>
    (dss_cons (ds_set 1 (ev_disp false c.ov c.hu (ek_cons ev_str (ev_lst ea_nil) (ek_cons ev_str (ev_op (x_Add c) ev_int (ev_callB (x_len c) (c.no b_len) (ea_cons (ev_slice c.ov (v_name 0) eo_none (eo_some ev_int)) ea_nil))) ek_nil))) (c.nd ()))
    (dss_cons (ds_for PassesOwn.never (c.calm ()) (di_seq (ev_slice c.ov (v_name 0) eo_none (eo_some ev_int))) (dg_name 2 c.nd) (dss_cons (ds_if (et_cmp (x_Ge c) (ev_callB (x_abs c) (c.no b_abs) (ea_cons (v_name 2) ea_nil)) (ev_op (x_Pow c) ev_int ev_int)) (dss_one (ds_expr (ev_append (ep_key c.ov c.hu (v_place 1) ev_str) (ev_callB (x_abs c) (c.no b_abs) (ea_cons (v_name 2) ea_nil))))) dss_nil)
    (dss_cons (ds_set 3 (ev_op (x_Add c) (ev_op (x_Mul c) ev_int (ev_callB (x_abs c) (c.no b_abs) (ea_cons (v_name 2) ea_nil))) (ev_callT (x_int c) (c.no b_int) (ea_cons (ev_cmp (x_Lt c) (v_name 2) ev_int) ea_nil))) (c.nd ()))
    (dss_one (ds_store c.ov c.hu (v_place 1) ev_str (ev_op (x_Mod c) (ev_callT (x_int c) (c.no b_int) (ea_cons (ev_op (x_Add c) (ev_op (x_Mul c) (ev_op (x_Add c) (ev_op (x_Add c) (ev_ix (x_Ix c) (v_nameM 1) ev_str) (v_name 3)) ev_int) ev_int) ev_int) ea_nil)) ev_int))))))
    (dss_one (ds_retM 1 (v_pe 1)))))
/-! ### _law_lots -/
abbrev s__law_lots : Stmt := top 11
abbrev N__law_lots : List Str := ["many", "found", "place", "odd"]
abbrev p__law_lots : List Str := ["many"]
theorem bd__law_lots : BdP "_law_lots" s__law_lots p__law_lots := fun _ _ _ _ _ _ us hl => match us, hl with | [_], _ => rfl
theorem sc__law_lots : FnScope N__law_lots p__law_lots (defScope s__law_lots) := ⟨rfl, rfl, rfl, by decide +kernel, rfl, by decide +kernel, by decide +kernel⟩
def gb__law_lots : DSt → Option Out :=
    (sSeq (sSet 1 (gN fLst (gCons (gN fTup gNil) gNil)))
    (sSeq (sFor (gItems fRng1 (gCons (gVar 0) gNil)) (nName 2) (sSet 1 (g2 aAdd (gVar 1) (gLc [3] (gSeq (gVar 1)) (nName 3) gYes (g2 aAdd (gVar 3) (gN fTup (gCons (gVar 2) gNil)))))))
    (sRet (gVar 1))))
def S__law_lots : Sem' := semB N__law_lots 1 [] gb__law_lots
theorem ok__law_lots {G : Gd} {mg : Str → Option Value} {base : Heap} {f : Addr} {fd : FuncData} (Fu : Fun G.K "_law_lots" "_law_lots" s__law_lots f fd) (hm : mg "_law_lots" = some (.ref f)) (b_range : mg "range" = none) : DefOk G mg base 1 "_law_lots" s__law_lots p__law_lots [] S__law_lots :=
  def_ok (k := 0) (M := []) (O := [1]) (gb := gb__law_lots) Fu hm sc__law_lots (by decide) (by rfl) (by decide) fun cdv A outer s H c =>
    (dss_cons (ds_set 1 (ev_lst (ea_cons (ev_tup ea_nil) ea_nil)) (c.nd ()))
    (dss_cons (ds_for PassesOwn.never (c.calm ()) (di_rng1 (ea_cons (v_name 0) ea_nil) (c.no b_range)) (dg_name 2 c.nd) (dss_one (ds_set 1 (ev_op (x_Add c) (v_name 1) (ev_lc (own := [("odd", 3)]) (vs := [3]) c.calm c.nd (di_seq (v_name 1)) (fun _ => blkOk_by (by first | rfl | decide +kernel)) (dg_name 3 c.blk.nd) ets_nil (ev_op (x_Add c.blk) (v_name 3) (ev_tup (ea_cons (v_name 2) ea_nil))))) (c.nd ()))))
    (dss_one (ds_retM 1 (v_pe 1)))))
/-! ### _law_pairs -/
abbrev s__law_pairs : Stmt := top 7
abbrev N__law_pairs : List Str := ["many", "found", "a", "b"]
abbrev p__law_pairs : List Str := ["many"]
theorem bd__law_pairs : BdP "_law_pairs" s__law_pairs p__law_pairs := fun _ _ _ _ _ _ us hl => match us, hl with | [_], _ => rfl
theorem sc__law_pairs : FnScope N__law_pairs p__law_pairs (defScope s__law_pairs) := ⟨rfl, rfl, rfl, by decide +kernel, rfl, by decide +kernel, by decide +kernel⟩
def gb__law_pairs : DSt → Option Out :=
    (sSeq (sSet 1 (gN fLst gNil))
    (sSeq (sFor (gItems fRng1 (gCons (gVar 0) gNil)) (nName 2) (sSet 1 (g2 aAdd (gVar 1) (gLc [3] (gItems fRng2 (gCons (g2 aAdd (gVar 2) (gPure (.int 1))) (gCons (gVar 0) gNil))) (nName 3) gYes (gImm (gN fTup (gCons (gVar 2) (gCons (gVar 3) gNil))))))))
    (sRet (gVar 1))))
def S__law_pairs : Sem' := semB N__law_pairs 1 [] gb__law_pairs
theorem ok__law_pairs {G : Gd} {mg : Str → Option Value} {base : Heap} {f : Addr} {fd : FuncData} (Fu : Fun G.K "_law_pairs" "_law_pairs" s__law_pairs f fd) (hm : mg "_law_pairs" = some (.ref f)) (b_range : mg "range" = none) : DefOk G mg base 1 "_law_pairs" s__law_pairs p__law_pairs [] S__law_pairs :=
  def_ok (k := 0) (M := []) (O := [1]) (gb := gb__law_pairs) Fu hm sc__law_pairs (by decide) (by rfl) (by decide) fun cdv A outer s H c =>
    (dss_cons (ds_set 1 (ev_lst ea_nil) (c.nd ()))
    (dss_cons (ds_for PassesOwn.never (c.calm ()) (di_rng1 (ea_cons (v_name 0) ea_nil) (c.no b_range)) (dg_name 2 c.nd) (dss_one (ds_set 1 (ev_op (x_Add c) (v_name 1) (ev_lc (own := [("b", 3)]) (vs := [3]) c.calm c.nd (di_rng2 (ea_cons (ev_op (x_Add c) (v_name 2) ev_int) (ea_cons (v_name 0) ea_nil)) (c.no b_range)) (fun _ => blkOk_by (by first | rfl | decide +kernel)) (dg_name 3 c.blk.nd) ets_nil (ev_imm (ev_tup (ea_cons (v_name 2) (ea_cons (v_name 3) ea_nil)))))) (c.nd ()))))
    (dss_one (ds_retM 1 (v_pe 1)))))
/-! ### _law_turned -/
abbrev s__law_turned : Stmt := top 10
abbrev N__law_turned : List Str := ["odd", "place", "own"]
abbrev p__law_turned : List Str := ["odd", "place"]
theorem bd__law_turned : BdP "_law_turned" s__law_turned p__law_turned := fun _ _ _ _ _ _ us hl => match us, hl with | [_, _], _ => rfl
theorem sc__law_turned : FnScope N__law_turned p__law_turned (defScope s__law_turned) := ⟨rfl, rfl, rfl, by decide +kernel, rfl, by decide +kernel, by decide +kernel⟩
def gb__law_turned : DSt → Option Out :=
    (sSeq (sIf (tB (g2 aIn (gVar 1) (gVar 0))) (sRet (gN fTuple (gCons (gLc [2] (gSeq (gVar 0)) (nName 2) (tB (g2 fNe (gVar 2) (gVar 1))) (gImm (gVar 2))) gNil))) sNext)
    (sRet (gN fTuple (gCons (gN fSorted (gCons (g2 aAdd (gVar 0) (gN fTup (gCons (gVar 1) gNil))) gNil)) gNil))))
def S__law_turned : Sem' := semB N__law_turned 2 [] gb__law_turned
theorem ok__law_turned {G : Gd} {mg : Str → Option Value} {base : Heap} {f : Addr} {fd : FuncData} (Fu : Fun G.K "_law_turned" "_law_turned" s__law_turned f fd) (hm : mg "_law_turned" = some (.ref f)) (b_tuple : mg "tuple" = none) (b_sorted : mg "sorted" = none) : DefOk G mg base 1 "_law_turned" s__law_turned p__law_turned [] S__law_turned :=
  def_ok (k := 0) (M := []) (O := []) (gb := gb__law_turned) Fu hm sc__law_turned (by decide) (by rfl) (by decide) fun cdv A outer s H c =>
    (dss_cons (ds_if (et_cmp (x_In c) (v_name 1) (v_name 0)) (dss_one (ds_ret (ev_callT (x_tuple c) (c.no b_tuple) (ea_cons (ev_lc (own := [("own", 2)]) (vs := [2]) c.calm c.nd (di_seq (v_name 0)) (fun _ => blkOk_by (by first | rfl | decide +kernel)) (dg_name 2 c.blk.nd) (ets_one (et_cmp (x_Ne c.blk) (v_name 2) (v_name 1))) (ev_imm (v_name 2))) ea_nil)))) dss_nil)
    (dss_one (ds_ret (ev_callT (x_tuple c) (c.no b_tuple) (ea_cons (ev_callB (x_sorted c) (c.no b_sorted) (ea_cons (ev_op (x_Add c) (v_name 0) (ev_tup (ea_cons (v_name 1) ea_nil))) ea_nil)) ea_nil)))))
/-! ### _law_kinds -/
abbrev s__law_kinds : Stmt := top 9
abbrev N__law_kinds : List Str := ["many", "table", "a", "b", "fresh", "count", "odd"]
abbrev p__law_kinds : List Str := ["many"]
theorem bd__law_kinds : BdP "_law_kinds" s__law_kinds p__law_kinds := fun _ _ _ _ _ _ us hl => match us, hl with | [_], _ => rfl
theorem sc__law_kinds : FnScope N__law_kinds p__law_kinds (defScope s__law_kinds) := ⟨rfl, rfl, rfl, by decide +kernel, rfl, by decide +kernel, by decide +kernel⟩
def gb__law_kinds : DSt → Option Out :=
    (sSeq (sSet 1 (gDisp true (gkCons (gN fTup (gCons (gPure (.int 0)) (gCons (gN fTup gNil) gNil))) (gPure (.bl true)) gkNil)))
    (sSeq (sFor (gSeq (gCall0 S__law_pairs (gCons (gVar 0) gNil))) (nTup 2 (nCons (nName 2) (nCons (nName 3) nNil))) (sSeq (sSet 4 (gPure (.dct true [])))
    (sSeq (sFor (gSeq (gN aList (gCons (gVar 1) gNil))) (nTup 2 (nCons (nName 5) (nCons (nName 6) nNil))) (sSeq (sStore 4 (pName 4) (gN fTup (gCons (gVar 5) (gCons (gVar 6) gNil))) (gPure (.bl true)))
    (sStore 4 (pName 4) (gN fTup (gCons (g2 aAdd (gVar 5) (gPure (.int 1))) (gCons (gCall0 S__law_turned (gCons (gCall0 S__law_turned (gCons (gVar 6) (gCons (gVar 2) gNil))) (gCons (gVar 3) gNil))) gNil))) (gPure (.bl true)))))
    (sSet 1 (gN (fDict true) (gCons (g1 fItems (gVar 4)) gNil))))))
    (sRet (gVar 1))))
def S__law_kinds : Sem' := semB N__law_kinds 1 [] gb__law_kinds
theorem ok__law_kinds {G : Gd} {mg : Str → Option Value} {base : Heap} {f : Addr} {fd : FuncData} (Fu : Fun G.K "_law_kinds" "_law_kinds" s__law_kinds f fd) (hm : mg "_law_kinds" = some (.ref f)) (D__law_pairs : DefOk G mg base 1 "_law_pairs" s__law_pairs p__law_pairs [] S__law_pairs) (D__law_turned : DefOk G mg base 1 "_law_turned" s__law_turned p__law_turned [] S__law_turned) (b_list : mg "list" = none) (b_dict : mg "dict" = none) : DefOk G mg base 2 "_law_kinds" s__law_kinds p__law_kinds [] S__law_kinds :=
  def_ok (k := 1) (M := [4]) (O := [1, 4]) (gb := gb__law_kinds) Fu hm sc__law_kinds (by decide) (by rfl) (by decide) fun cdv A outer s H c =>
    (dss_cons (ds_set 1 (ev_disp true c.ov c.hu (ek_cons (ev_tup (ea_cons ev_int (ea_cons (ev_tup ea_nil) ea_nil))) ev_bl ek_nil)) (c.nd ()))
    (dss_cons (ds_for PassesOwn.never (c.calm ()) (di_seq (c_call c D__law_pairs bd__law_pairs (ea_cons (v_name 0) ea_nil) (len_cons len_nil))) (dg_tup c.calm (dgs_cons (dg_name 2 c.nd) (dgs_cons (dg_name 3 c.nd) dgs_nil))) (dss_cons (ds_set 4 (ev_dnew true c.ov) (c.nd ()))
    (dss_cons (ds_for PassesOwn.never (c.calm ()) (di_seq (ev_callT (x_list c) (c.no b_list) (ea_cons (v_name 1) ea_nil))) (dg_tup c.calm (dgs_cons (dg_name 5 c.nd) (dgs_cons (dg_name 6 c.nd) dgs_nil))) (dss_cons (ds_store c.ov c.hu (v_place 4) (ev_tup (ea_cons (v_name 5) (ea_cons (v_name 6) ea_nil))) ev_bl)
    (dss_one (ds_store c.ov c.hu (v_place 4) (ev_tup (ea_cons (ev_op (x_Add c) (v_name 5) ev_int) (ea_cons (c_call c D__law_turned bd__law_turned (ea_cons (c_call c D__law_turned bd__law_turned (ea_cons (v_name 6) (ea_cons (v_name 2) ea_nil)) (len_cons (len_cons len_nil))) (ea_cons (v_name 3) ea_nil)) (len_cons (len_cons len_nil))) ea_nil))) ev_bl))))
    (dss_one (ds_set 1 (ev_callT (x_dict true c) (c.no b_dict) (ea_cons (ev_listIt c.ov c.calm (v_nameM 4) (c.no b_list)) ea_nil)) (c.nd ()))))))
    (dss_one (ds_retM 1 (v_pe 1)))))
/-! ### _law_take -/
abbrev s__law_take : Stmt := top 6
abbrev N__law_take : List Str := ["urn", "many", "state", "whole"]
abbrev p__law_take : List Str := ["urn", "many"]
theorem bd__law_take : BdP "_law_take" s__law_take p__law_take := fun _ _ _ _ _ _ us hl => match us, hl with | [_, _], _ => rfl
theorem sc__law_take : FnScope N__law_take p__law_take (defScope s__law_take) := ⟨rfl, rfl, rfl, by decide +kernel, rfl, by decide +kernel, by decide +kernel⟩
def gb__law_take : DSt → Option Out :=
    (sSeq (sIf (tB (g2 fLt (gVar 1) (gPure (.int 2)))) (sRet (gPure (.int 0))) sNext)
    (sSeq (sIf (tB (g2 fNe (g2 aIx (gVar 0) (gPure (.str "deep"))) (gN fLst gNil))) (sSeq (sSet 3 (gPop 0 (pKey (pName 0) (gPure (.str "deep")))))
    (sSeq (sIf (tB (g2 fGe (gVar 3) (gVar 1))) (sExp (gAppend 0 (pKey (pName 0) (gPure (.str "deep"))) (g2 fDiv (gVar 3) (gVar 1)))) sNext)
    (sRet (g2 fMod (gN fInt (gCons (gVar 3) gNil)) (gVar 1))))) sNext)
    (sSeq (sSet 2 (g2 fMod (gN fInt (gCons (g2 aAdd (g2 aMul (g2 aIx (gVar 0) (gPure (.str "state"))) (gPure (.int 2862933555777941757))) (gPure (.int 3037000493))) gNil)) (gPure (.int 2305843009213693951))))
    (sSeq (sStore 0 (pName 0) (gPure (.str "state")) (gImm (gVar 2)))
    (sRet (g2 fMod (gN fInt (gCons (g2 fDiv (g2 fMod (gN fInt (gCons (g2 aAdd (g2 aMul (gVar 2) (gVar 2)) (g2 aMul (gPure (.int 362436069)) (gVar 2))) gNil)) (gPure (.int 2305843009213693921))) (gPure (.int 4194304))) gNil)) (gVar 1)))))))
def S__law_take : Sem' := semB N__law_take 2 [0] gb__law_take
theorem ok__law_take {G : Gd} {mg : Str → Option Value} {base : Heap} {f : Addr} {fd : FuncData} (Fu : Fun G.K "_law_take" "_law_take" s__law_take f fd) (hm : mg "_law_take" = some (.ref f)) (b_int : mg "int" = none) : DefOk G mg base 1 "_law_take" s__law_take p__law_take [0] S__law_take :=
  def_ok (k := 0) (M := [0]) (O := [0]) (gb := gb__law_take) Fu hm sc__law_take (by decide) (by rfl) (by decide) fun cdv A outer s H c =>
    (dss_cons (ds_if (et_cmp (x_Lt c) (v_name 1) ev_int) (dss_one (ds_ret ev_int)) dss_nil)
    (dss_cons (ds_if (et_cmp (x_Ne c) (ev_ix (x_Ix c) (v_nameM 0) ev_str) (ev_lst ea_nil)) (dss_cons (ds_set 3 (ev_pop (ep_key c.ov c.hu (v_place 0) ev_str)) (c.nd ()))
    (dss_cons (ds_if (et_cmp (x_Ge c) (v_name 3) (v_name 1)) (dss_one (ds_expr (ev_append (ep_key c.ov c.hu (v_place 0) ev_str) (ev_op (x_Div c) (v_name 3) (v_name 1))))) dss_nil)
    (dss_one (ds_ret (ev_op (x_Mod c) (ev_callT (x_int c) (c.no b_int) (ea_cons (v_name 3) ea_nil)) (v_name 1)))))) dss_nil)
    (dss_cons (ds_set 2 (ev_op (x_Mod c) (ev_callT (x_int c) (c.no b_int) (ea_cons (ev_op (x_Add c) (ev_op (x_Mul c) (ev_ix (x_Ix c) (v_nameM 0) ev_str) ev_int) ev_int) ea_nil)) ev_int) (c.nd ()))
    (dss_cons (ds_store c.ov c.hu (v_place 0) ev_str (ev_imm (v_name 2)))
    (dss_one (ds_ret (ev_op (x_Mod c) (ev_callT (x_int c) (c.no b_int) (ea_cons (ev_op (x_Div c) (ev_op (x_Mod c) (ev_callT (x_int c) (c.no b_int) (ea_cons (ev_op (x_Add c) (ev_op (x_Mul c) (v_name 2) (v_name 2)) (ev_op (x_Mul c) ev_int (v_name 2))) ea_nil)) ev_int) ev_int) ea_nil)) (v_name 1))))))))
/-! ### _law_counts -/
abbrev s__law_counts : Stmt := top 8
abbrev N__law_counts : List Str := ["many", "odd", "t", "found", "count", "top", "s", "is_let"]
abbrev p__law_counts : List Str := ["many", "odd"]
theorem bd__law_counts : BdP "_law_counts" s__law_counts p__law_counts := fun _ _ _ _ _ _ us hl => match us, hl with | [_, _], _ => rfl
theorem sc__law_counts : FnScope N__law_counts p__law_counts (defScope s__law_counts) := ⟨rfl, rfl, rfl, by decide +kernel, rfl, by decide +kernel, by decide +kernel⟩
def gb__law_counts : DSt → Option Out :=
    (sSeq (sPar [5, 6] (gCons (g2 fDiv (g2 aMul (gVar 0) (g2 fSub (gVar 0) (gPure (.int 1)))) (gPure (.int 2))) (gCons (gN aLen (gCons (gVar 1) gNil)) gNil)))
    (sSeq (sSet 2 (gIf (tB (g2 fEq (g2 fMod (gN fInt (gCons (gVar 0) gNil)) (gPure (.int 2))) (gPure (.int 1)))) (gImm (gVar 6)) (g2 fSub (gVar 0) (gVar 6))))
    (sSeq (sSet 3 (gN fLst gNil))
    (sSeq (sFor (gItems fRng1 (gCons (g2 aAdd (gVar 5) (gPure (.int 1))) gNil)) (nName 4) (sSeq (sSet 7 (gAndV (g2 fEq (g2 fMod (gN fInt (gCons (gVar 6) gNil)) (gPure (.int 2))) (gPure (.int 0))) (gChain fLe fLe (g2 fDiv (gVar 6) (gPure (.int 2))) (gVar 4) (g2 fSub (gVar 5) (g2 fDiv (gVar 2) (gPure (.int 2)))))))
    (sSeq (sIf (tOr (tAnd (tB (g2 fEq (gVar 6) (gPure (.int 0)))) (tB (g2 aIn (gVar 4) (gN fTup (gCons (gPure (.int 1)) (gCons (gPure (.int 2)) gNil)))))) (tAnd (tB (g2 fEq (gVar 2) (gPure (.int 0)))) (tB (g2 aIn (gVar 4) (gN fTup (gCons (g2 fSub (gVar 5) (gPure (.int 1))) (gCons (g2 fSub (gVar 5) (gPure (.int 2))) gNil))))))) (sSet 7 (gPure (.bl false))) sNext)
    (sSet 3 (g2 aAdd (gVar 3) (gIf (tTru (gVar 7)) (gN fLst (gCons (gImm (gVar 4)) gNil)) (gN fLst gNil)))))))
    (sRet (gVar 3))))))
def S__law_counts : Sem' := semB N__law_counts 2 [] gb__law_counts
theorem ok__law_counts {G : Gd} {mg : Str → Option Value} {base : Heap} {f : Addr} {fd : FuncData} (Fu : Fun G.K "_law_counts" "_law_counts" s__law_counts f fd) (hm : mg "_law_counts" = some (.ref f)) (b_len : mg "len" = none) (b_int : mg "int" = none) (b_range : mg "range" = none) : DefOk G mg base 1 "_law_counts" s__law_counts p__law_counts [] S__law_counts :=
  def_ok (k := 0) (M := []) (O := [3]) (gb := gb__law_counts) Fu hm sc__law_counts (by decide) (by rfl) (by decide) fun cdv A outer s H c =>
    (dss_cons (ds_par2 5 6 (c.calm ()) (c.nd ()) (ea_cons (ev_op (x_Div c) (ev_op (x_Mul c) (v_name 0) (ev_op (x_Sub c) (v_name 0) ev_int)) ev_int) (ea_cons (ev_callB (x_len c) (c.no b_len) (ea_cons (v_name 1) ea_nil)) ea_nil)))
    (dss_cons (ds_set 2 (ev_if (et_cmp (x_Eq c) (ev_op (x_Mod c) (ev_callT (x_int c) (c.no b_int) (ea_cons (v_name 0) ea_nil)) ev_int) ev_int) (ev_imm (v_name 6)) (ev_op (x_Sub c) (v_name 0) (v_name 6))) (c.nd ()))
    (dss_cons (ds_set 3 (ev_lst ea_nil) (c.nd ()))
    (dss_cons (ds_for PassesOwn.never (c.calm ()) (di_rng1 (ea_cons (ev_op (x_Add c) (v_name 5) ev_int) ea_nil) (c.no b_range)) (dg_name 4 c.nd) (dss_cons (ds_set 7 (ev_and (ev_cmp (x_Eq c) (ev_op (x_Mod c) (ev_callT (x_int c) (c.no b_int) (ea_cons (v_name 6) ea_nil)) ev_int) ev_int) (ev_one (ev_chain (x_Le c) (x_Le c) (ev_op (x_Div c) (v_name 6) ev_int) (v_name 4) (ev_op (x_Sub c) (v_name 5) (ev_op (x_Div c) (v_name 2) ev_int))))) (c.nd ()))
    (dss_cons (ds_if (EW.et (ew_or (EW.et (ew_and (et_cmp (x_Eq c) (v_name 6) ev_int) (ew_and1 (et_cmp (x_In c) (v_name 4) (ev_tup (ea_cons ev_int (ea_cons ev_int ea_nil))))))) (ew_or1 (EW.et (ew_and (et_cmp (x_Eq c) (v_name 2) ev_int) (ew_and1 (et_cmp (x_In c) (v_name 4) (ev_tup (ea_cons (ev_op (x_Sub c) (v_name 5) ev_int) (ea_cons (ev_op (x_Sub c) (v_name 5) ev_int) ea_nil)))))))))) (dss_one (ds_set 7 ev_bl (c.nd ()))) dss_nil)
    (dss_one (ds_set 3 (ev_op (x_Add c) (v_name 3) (ev_if (et_val (v_name 7)) (ev_lst (ea_cons (ev_imm (v_name 4)) ea_nil)) (ev_lst ea_nil))) (c.nd ()))))))
    (dss_one (ds_retM 3 (v_pe 3)))))))
/-! ### pair_count -/
abbrev s_pair_count : Stmt := top 1
abbrev N_pair_count : List Str := ["many"]
abbrev p_pair_count : List Str := ["many"]
theorem bd_pair_count : BdP "pair_count" s_pair_count p_pair_count := fun _ _ _ _ _ _ us hl => match us, hl with | [_], _ => rfl
theorem sc_pair_count : FnScope N_pair_count p_pair_count (defScope s_pair_count) := ⟨rfl, rfl, rfl, by decide +kernel, rfl, by decide +kernel, by decide +kernel⟩
def gb_pair_count : DSt → Option Out :=
    (sRet (g2 fDiv (g2 aMul (gVar 0) (g2 fSub (gVar 0) (gPure (.int 1)))) (gPure (.int 2))))
def S_pair_count : Sem' := semB N_pair_count 1 [] gb_pair_count
theorem ok_pair_count {G : Gd} {mg : Str → Option Value} {base : Heap} {f : Addr} {fd : FuncData} (Fu : Fun G.K "pair_count" "pair_count" s_pair_count f fd) (hm : mg "pair_count" = some (.ref f)) : DefOk G mg base 1 "pair_count" s_pair_count p_pair_count [] S_pair_count :=
  def_ok (k := 0) (M := []) (O := []) (gb := gb_pair_count) Fu hm sc_pair_count (by decide) (by rfl) (by decide) fun cdv A outer s H c =>
    (dss_one (ds_ret (ev_op (x_Div c) (ev_op (x_Mul c) (v_name 0) (ev_op (x_Sub c) (v_name 0) ev_int)) ev_int)))
/-! ### has_webs -/
abbrev s_has_webs : Stmt := top 2
abbrev N_has_webs : List Str := ["kind", "beside", "many", "count", "odd", "top", "several"]
abbrev p_has_webs : List Str := ["kind"]
theorem bd_has_webs : BdP "has_webs" s_has_webs p_has_webs := fun _ _ _ _ _ _ us hl => match us, hl with | [_], _ => rfl
theorem bk_has_webs_0_kind : BdK "has_webs" s_has_webs p_has_webs ["kind"] 0 [0] := fun _ _ _ _ _ _ us ws h1 h2 => match us, h1, ws, h2 with | [], _, [_], _ => rfl
theorem sc_has_webs : FnScope N_has_webs p_has_webs (defScope s_has_webs) := ⟨rfl, rfl, rfl, by decide +kernel, rfl, by decide +kernel, by decide +kernel⟩
def gb_has_webs : DSt → Option Out :=
    (sSeq (sAsg (gVar 0) (nTup 3 (nCons (nName 2) (nCons (nName 3) (nCons (nName 4) nNil)))))
    (sSeq (sPar [5, 6] (gCons (gCall0 S_pair_count (gCons (gVar 2) gNil)) (gCons (gN aLen (gCons (gVar 4) gNil)) gNil)))
    (sSeq (sSet 1 (gIf (tB (g2 fEq (g2 fMod (gVar 2) (gPure (.int 2))) (gPure (.int 1)))) (gImm (gVar 6)) (g2 fSub (gVar 2) (gVar 6))))
    (sSeq (sIf (tOr (tB (g2 fEq (g2 fMod (gVar 6) (gPure (.int 2))) (gPure (.int 1)))) (tOr (tB (g2 fLt (gVar 3) (g2 fDiv (gVar 6) (gPure (.int 2))))) (tB (g2 fGt (gVar 3) (g2 fSub (gVar 5) (g2 fDiv (gVar 1) (gPure (.int 2)))))))) (sRet (gPure (.bl false))) sNext)
    (sSeq (sIf (tAnd (tB (g2 fEq (gVar 6) (gPure (.int 0)))) (tB (g2 aIn (gVar 3) (gN fTup (gCons (gPure (.int 1)) (gCons (gPure (.int 2)) gNil)))))) (sRet (gPure (.bl false))) sNext)
    (sRet (gOrV (g2 fGt (gVar 1) (gPure (.int 0))) (g2 aNotIn (gVar 3) (gN fTup (gCons (g2 fSub (gVar 5) (gPure (.int 1))) (gCons (g2 fSub (gVar 5) (gPure (.int 2))) gNil)))))))))))
def S_has_webs : Sem' := semB N_has_webs 1 [] gb_has_webs
theorem ok_has_webs {G : Gd} {mg : Str → Option Value} {base : Heap} {f : Addr} {fd : FuncData} (Fu : Fun G.K "has_webs" "has_webs" s_has_webs f fd) (hm : mg "has_webs" = some (.ref f)) (D_pair_count : DefOk G mg base 1 "pair_count" s_pair_count p_pair_count [] S_pair_count) (b_len : mg "len" = none) : DefOk G mg base 2 "has_webs" s_has_webs p_has_webs [] S_has_webs :=
  def_ok (k := 1) (M := []) (O := []) (gb := gb_has_webs) Fu hm sc_has_webs (by decide) (by rfl) (by decide) fun cdv A outer s H c =>
    (dss_cons (ds_asg (v_name 0) (dg_tup c.calm (dgs_cons (dg_name 2 c.nd) (dgs_cons (dg_name 3 c.nd) (dgs_cons (dg_name 4 c.nd) dgs_nil)))))
    (dss_cons (ds_par2 5 6 (c.calm ()) (c.nd ()) (ea_cons (c_call c D_pair_count bd_pair_count (ea_cons (v_name 2) ea_nil) (len_cons len_nil)) (ea_cons (ev_callB (x_len c) (c.no b_len) (ea_cons (v_name 4) ea_nil)) ea_nil)))
    (dss_cons (ds_set 1 (ev_if (et_cmp (x_Eq c) (ev_op (x_Mod c) (v_name 2) ev_int) ev_int) (ev_imm (v_name 6)) (ev_op (x_Sub c) (v_name 2) (v_name 6))) (c.nd ()))
    (dss_cons (ds_if (EW.et (ew_or (et_cmp (x_Eq c) (ev_op (x_Mod c) (v_name 6) ev_int) ev_int) (ew_or (et_cmp (x_Lt c) (v_name 3) (ev_op (x_Div c) (v_name 6) ev_int)) (ew_or1 (et_cmp (x_Gt c) (v_name 3) (ev_op (x_Sub c) (v_name 5) (ev_op (x_Div c) (v_name 1) ev_int))))))) (dss_one (ds_ret ev_bl)) dss_nil)
    (dss_cons (ds_if (EW.et (ew_and (et_cmp (x_Eq c) (v_name 6) ev_int) (ew_and1 (et_cmp (x_In c) (v_name 3) (ev_tup (ea_cons ev_int (ea_cons ev_int ea_nil))))))) (dss_one (ds_ret ev_bl)) dss_nil)
    (dss_one (ds_ret (ev_or (ev_cmp (x_Gt c) (v_name 1) ev_int) (ev_one (ev_cmp (x_NotIn c) (v_name 3) (ev_tup (ea_cons (ev_op (x_Sub c) (v_name 5) ev_int) (ea_cons (ev_op (x_Sub c) (v_name 5) ev_int) ea_nil)))))))))))))
/-! ### counts_for -/
abbrev s_counts_for : Stmt := top 3
abbrev N_counts_for : List Str := ["many", "odd", "count"]
abbrev p_counts_for : List Str := ["many", "odd"]
theorem bd_counts_for : BdP "counts_for" s_counts_for p_counts_for := fun _ _ _ _ _ _ us hl => match us, hl with | [_, _], _ => rfl
theorem bk_counts_for_0_odd_many : BdK "counts_for" s_counts_for p_counts_for ["odd", "many"] 0 [1, 0] := fun _ _ _ _ _ _ us ws h1 h2 => match us, h1, ws, h2 with | [], _, [_, _], _ => rfl
theorem sc_counts_for : FnScope N_counts_for p_counts_for (defScope s_counts_for) := ⟨rfl, rfl, rfl, by decide +kernel, rfl, by decide +kernel, by decide +kernel⟩
def gb_counts_for : DSt → Option Out :=
    (sRet (gN fTuple (gCons (gLc [2] (gItems fRng1 (gCons (g2 aAdd (gCall0 S_pair_count (gCons (gVar 0) gNil)) (gPure (.int 1))) gNil)) (nName 2) (tTru (gCall0 S_has_webs (gCons (gN fTup (gCons (gVar 0) (gCons (gVar 2) (gCons (gVar 1) gNil)))) gNil))) (gImm (gVar 2))) gNil)))
def S_counts_for : Sem' := semB N_counts_for 2 [] gb_counts_for
theorem ok_counts_for {G : Gd} {mg : Str → Option Value} {base : Heap} {f : Addr} {fd : FuncData} (Fu : Fun G.K "counts_for" "counts_for" s_counts_for f fd) (hm : mg "counts_for" = some (.ref f)) (D_has_webs : DefOk G mg base 2 "has_webs" s_has_webs p_has_webs [] S_has_webs) (D_pair_count : DefOk G mg base 1 "pair_count" s_pair_count p_pair_count [] S_pair_count) (b_range : mg "range" = none) (b_tuple : mg "tuple" = none) : DefOk G mg base 3 "counts_for" s_counts_for p_counts_for [] S_counts_for :=
  def_ok (k := 2) (M := []) (O := []) (gb := gb_counts_for) Fu hm sc_counts_for (by decide) (by rfl) (by decide) fun cdv A outer s H c =>
    (dss_one (ds_ret (ev_callT (x_tuple c) (c.no b_tuple) (ea_cons (ev_lc (own := [("count", 2)]) (vs := [2]) c.calm c.nd (di_rng1 (ea_cons (ev_op (x_Add c) (c_call c D_pair_count bd_pair_count (ea_cons (v_name 0) ea_nil) (len_cons len_nil)) ev_int) ea_nil) (c.no b_range)) (fun _ => blkOk_by (by first | rfl | decide +kernel)) (dg_name 2 c.blk.nd) (ets_one (et_val (c_call c.blk D_has_webs bd_has_webs (ea_cons (ev_tup (ea_cons (v_name 0) (ea_cons (v_name 2) (ea_cons (v_name 1) ea_nil)))) ea_nil) (len_cons len_nil)))) (ev_imm (v_name 2))) ea_nil))))
/-! ### _law_is_told -/
abbrev s__law_is_told : Stmt := top 12
abbrev N__law_is_told : List Str := ["urn", "many", "top", "odd", "table", "total", "due", "turn", "count", "found"]
abbrev p__law_is_told : List Str := ["urn", "many"]
theorem bd__law_is_told : BdP "_law_is_told" s__law_is_told p__law_is_told := fun _ _ _ _ _ _ us hl => match us, hl with | [_, _], _ => rfl
theorem sc__law_is_told : FnScope N__law_is_told p__law_is_told (defScope s__law_is_told) := ⟨rfl, rfl, rfl, by decide +kernel, rfl, by decide +kernel, by decide +kernel⟩
def gb__law_is_told : DSt → Option Out :=
    (sSeq (sAsg (gN fTup (gCons (gCall0 S__law_kinds (gCons (gVar 1) gNil)) (gCons (gPure (.int 0)) gNil))) (nTup 2 (nCons (nName 4) (nCons (nName 5) nNil))))
    (sSeq (sSet 2 (g2 fDiv (g2 aMul (gVar 1) (g2 fSub (gVar 1) (gPure (.int 1)))) (gPure (.int 2))))
    (sSeq (sFor (gSeq (gCall0 S__law_lots (gCons (gVar 1) gNil))) (nName 3) (sSeq (sSet 6 (gN fTuple (gCons (gLc [8] (gItems fRng1 (gCons (g2 aAdd (gVar 2) (gPure (.int 1))) gNil)) (nName 8) (tB (g2 aIn (gN fTup (gCons (gVar 8) (gCons (gVar 3) gNil))) (gVar 4))) (gImm (gVar 8))) gNil)))
    (sSeq (sIf (tOr (tB (g2 fNe (gN fRepr (gCons (gCall0 S_counts_for (gCons (gVar 1) (gCons (gVar 3) gNil))) gNil)) (gN fRepr (gCons (gVar 6) gNil)))) (tB (g2 fNe (gN aList (gCons (gVar 6) gNil)) (gCall0 S__law_counts (gCons (gVar 1) (gCons (gVar 3) gNil)))))) (sRet (gPure (.bl false))) sNext)
    (sSeq (sSet 5 (g2 aAdd (gVar 5) (gN aLen (gCons (gVar 6) gNil))))
    (sFor (gItems fRng1 (gCons (gPure (.int 2)) gNil)) (nName 7) (sSeq (sSet 8 (gCall1 S__law_take 0 (gCons (g2 aAdd (gVar 2) (gPure (.int 1))) gNil)))
    (sSeq (sSet 9 (gIf (tB (g2 fEq (gVar 7) (gPure (.int 1)))) (gCallK S_has_webs [0] gNil (gCons (gN fTup (gCons (gVar 1) (gCons (gVar 8) (gCons (gVar 3) gNil)))) gNil)) (gCall0 S_has_webs (gCons (gN fTup (gCons (gVar 1) (gCons (gVar 8) (gCons (gVar 3) gNil)))) gNil))))
    (sIf (tB (g2 fNe (gN fRepr (gCons (gVar 9) gNil)) (gN fRepr (gCons (g2 aIn (gVar 8) (gVar 6)) gNil)))) (sRet (gPure (.bl false))) sNext))))))))
    (sRet (g2 fEq (gVar 5) (g2 aIx (gN fLst (gCons (gPure (.int 0)) (gCons (gPure (.int 1)) (gCons (gPure (.int 2)) (gCons (gPure (.int 8)) (gCons (gPure (.int 36)) (gCons (gPure (.int 132)) gNil))))))) (gVar 1)))))))
def S__law_is_told : Sem' := semB N__law_is_told 2 [0] gb__law_is_told
theorem ok__law_is_told {G : Gd} {mg : Str → Option Value} {base : Heap} {f : Addr} {fd : FuncData} (Fu : Fun G.K "_law_is_told" "_law_is_told" s__law_is_told f fd) (hm : mg "_law_is_told" = some (.ref f)) (D__law_lots : DefOk G mg base 1 "_law_lots" s__law_lots p__law_lots [] S__law_lots) (D__law_kinds : DefOk G mg base 2 "_law_kinds" s__law_kinds p__law_kinds [] S__law_kinds) (D__law_take : DefOk G mg base 1 "_law_take" s__law_take p__law_take [0] S__law_take) (D__law_counts : DefOk G mg base 1 "_law_counts" s__law_counts p__law_counts [] S__law_counts) (D_has_webs : DefOk G mg base 2 "has_webs" s_has_webs p_has_webs [] S_has_webs) (D_counts_for : DefOk G mg base 3 "counts_for" s_counts_for p_counts_for [] S_counts_for) (b_range : mg "range" = none) (b_tuple : mg "tuple" = none) (b_repr : mg "repr" = none) (b_list : mg "list" = none) (b_len : mg "len" = none) : DefOk G mg base 4 "_law_is_told" s__law_is_told p__law_is_told [0] S__law_is_told :=
  def_ok (k := 3) (M := [0]) (O := [0]) (gb := gb__law_is_told) Fu hm sc__law_is_told (by decide) (by rfl) (by decide) fun cdv A outer s H c =>
    (dss_cons (ds_asg (ev_tup (ea_cons (c_call c D__law_kinds bd__law_kinds (ea_cons (v_name 1) ea_nil) (len_cons len_nil)) (ea_cons ev_int ea_nil))) (dg_tup c.calm (dgs_cons (dg_name 4 c.nd) (dgs_cons (dg_name 5 c.nd) dgs_nil))))
    (dss_cons (ds_set 2 (ev_op (x_Div c) (ev_op (x_Mul c) (v_name 1) (ev_op (x_Sub c) (v_name 1) ev_int)) ev_int) (c.nd ()))
    (dss_cons (ds_for PassesOwn.never (c.calm ()) (di_seq (c_call c D__law_lots bd__law_lots (ea_cons (v_name 1) ea_nil) (len_cons len_nil))) (dg_name 3 c.nd) (dss_cons (ds_set 6 (ev_callT (x_tuple c) (c.no b_tuple) (ea_cons (ev_lc (own := [("count", 8)]) (vs := [8]) c.calm c.nd (di_rng1 (ea_cons (ev_op (x_Add c) (v_name 2) ev_int) ea_nil) (c.no b_range)) (fun _ => blkOk_by (by first | rfl | decide +kernel)) (dg_name 8 c.blk.nd) (ets_one (et_cmp (x_In c.blk) (ev_tup (ea_cons (v_name 8) (ea_cons (v_name 3) ea_nil))) (v_name 4))) (ev_imm (v_name 8))) ea_nil)) (c.nd ()))
    (dss_cons (ds_if (EW.et (ew_or (et_cmp (x_Ne c) (ev_callB (x_repr c) (c.no b_repr) (ea_cons (c_call c D_counts_for bd_counts_for (ea_cons (v_name 1) (ea_cons (v_name 3) ea_nil)) (len_cons (len_cons len_nil))) ea_nil)) (ev_callB (x_repr c) (c.no b_repr) (ea_cons (v_name 6) ea_nil))) (ew_or1 (et_cmp (x_Ne c) (ev_callT (x_list c) (c.no b_list) (ea_cons (v_name 6) ea_nil)) (c_call c D__law_counts bd__law_counts (ea_cons (v_name 1) (ea_cons (v_name 3) ea_nil)) (len_cons (len_cons len_nil))))))) (dss_one (ds_ret ev_bl)) dss_nil)
    (dss_cons (ds_set 5 (ev_op (x_Add c) (v_name 5) (ev_callB (x_len c) (c.no b_len) (ea_cons (v_name 6) ea_nil))) (c.nd ()))
    (dss_one (ds_for PassesOwn.never (c.calm ()) (di_rng1 (ea_cons ev_int ea_nil) (c.no b_range)) (dg_name 7 c.nd) (dss_cons (ds_set 8 (c_call1 0 c D__law_take bd__law_take (fun _ => v_pe 0) (ea_cons (ev_op (x_Add c) (v_name 2) ev_int) ea_nil) (len_cons len_nil)) (c.nd ()))
    (dss_cons (ds_set 9 (ev_if (et_cmp (x_Eq c) (v_name 7) ev_int) (c_callK0 c D_has_webs bk_has_webs_0_kind (ekw_cons (ev_tup (ea_cons (v_name 1) (ea_cons (v_name 8) (ea_cons (v_name 3) ea_nil)))) ekw_nil) (len_cons len_nil) (fun ds h => perm_len (by decide) h)) (c_call c D_has_webs bd_has_webs (ea_cons (ev_tup (ea_cons (v_name 1) (ea_cons (v_name 8) (ea_cons (v_name 3) ea_nil)))) ea_nil) (len_cons len_nil))) (c.nd ()))
    (dss_one (ds_if (et_cmp (x_Ne c) (ev_callB (x_repr c) (c.no b_repr) (ea_cons (v_name 9) ea_nil)) (ev_callB (x_repr c) (c.no b_repr) (ea_cons (ev_cmp (x_In c) (v_name 8) (v_name 6)) ea_nil))) (dss_one (ds_ret ev_bl)) dss_nil))))))))))
    (dss_one (ds_ret (ev_cmp (x_Eq c) (v_name 5) (ev_ix (x_Ix c) (ev_lst (ea_cons ev_int (ea_cons ev_int (ea_cons ev_int (ea_cons ev_int (ea_cons ev_int (ea_cons ev_int ea_nil))))))) (v_name 1))))))))
/-! ### law -/
abbrev s_law : Stmt := top 13
abbrev N_law : List Str := ["script", "urn", "many", "odd", "table", "total", "whole", "found", "due", "count"]
abbrev p_law : List Str := ["script"]
theorem bd_law : BdP "law" s_law p_law := fun _ _ _ _ _ _ us hl => match us, hl with | [_], _ => rfl
theorem sc_law : FnScope N_law p_law (defScope s_law) := ⟨rfl, rfl, rfl, by decide +kernel, rfl, by decide +kernel, by decide +kernel⟩
def gb_law : DSt → Option Out :=
    (sSeq (sSet 1 (gCall0 S__law_urn (gCons (gVar 0) gNil)))
    (sSeq (sFor (gSeq (gN fTup (gCons (gPure (.int 1)) (gCons (gPure (.int 2)) (gCons (gPure (.int 3)) (gCons (gPure (.int 4)) (gCons (gPure (.int 5)) gNil))))))) (nName 2) (sIf (tNot (tTru (gCall1 S__law_is_told 1 (gCons (gVar 2) gNil)))) (sRet (gPure (.bl false))) sNext))
    (sSeq (sAsg (gN fTup (gCons (gCall0 S__law_kinds (gCons (gPure (.int 6)) gNil)) (gCons (gPure (.int 0)) (gCons (g2 fEq (gCall1 S__law_take 1 (gCons (gPure (.int 4)) gNil)) (gPure (.int 0))) gNil)))) (nTup 3 (nCons (nName 4) (nCons (nName 5) (nCons (nName 6) nNil)))))
    (sSeq (sFor (gSeq (gCall0 S__law_lots (gCons (gPure (.int 6)) gNil))) (nName 3) (sIf (tOr (tTru (gVar 6)) (tB (g2 fEq (gCall1 S__law_take 1 (gCons (gPure (.int 5)) gNil)) (gPure (.int 0))))) (sSeq (sSet 7 (gCallK S_counts_for [1, 0] gNil (gCons (gVar 3) (gCons (gPure (.int 6)) gNil))))
    (sSeq (sSet 8 (gLc [9] (gItems fRng1 (gCons (gPure (.int 16)) gNil)) (nName 9) (tB (g2 aIn (gN fTup (gCons (gVar 9) (gCons (gVar 3) gNil))) (gVar 4))) (gImm (gVar 9))))
    (sSeq (sIf (tOr (tB (g2 fNe (gN fRepr (gCons (gVar 7) gNil)) (gN fRepr (gCons (gN fTuple (gCons (gVar 8) gNil)) gNil)))) (tB (g2 fNe (gVar 8) (gCall0 S__law_counts (gCons (gPure (.int 6)) (gCons (gVar 3) gNil)))))) (sRet (gPure (.bl false))) sNext)
    (sSet 5 (g2 aAdd (gVar 5) (gN aLen (gCons (gVar 7) gNil))))))) sNext))
    (sRet (gOrV (g1 fNot (gVar 6)) (g2 fEq (gVar 5) (gPure (.int 412)))))))))
def S_law : Sem' := semB N_law 1 [] gb_law
theorem ok_law {G : Gd} {mg : Str → Option Value} {base : Heap} {f : Addr} {fd : FuncData} (Fu : Fun G.K "law" "law" s_law f fd) (D__law_urn : DefOk G mg base 1 "_law_urn" s__law_urn p__law_urn [] S__law_urn) (D__law_lots : DefOk G mg base 1 "_law_lots" s__law_lots p__law_lots [] S__law_lots) (D__law_kinds : DefOk G mg base 2 "_law_kinds" s__law_kinds p__law_kinds [] S__law_kinds) (D__law_is_told : DefOk G mg base 4 "_law_is_told" s__law_is_told p__law_is_told [0] S__law_is_told) (D__law_take : DefOk G mg base 1 "_law_take" s__law_take p__law_take [0] S__law_take) (D_counts_for : DefOk G mg base 3 "counts_for" s_counts_for p_counts_for [] S_counts_for) (D__law_counts : DefOk G mg base 1 "_law_counts" s__law_counts p__law_counts [] S__law_counts) (b_range : mg "range" = none) (b_repr : mg "repr" = none) (b_tuple : mg "tuple" = none) (b_len : mg "len" = none) : FnG G mg base 5 f fd p_law [] S_law :=
  def_fn (k := 4) (M := [1]) (O := [1]) (gb := gb_law) Fu sc_law (by decide) (by rfl) (by decide) fun cdv A outer s H c =>
    (dss_cons (ds_set 1 (c_call c D__law_urn bd__law_urn (ea_cons (v_name 0) ea_nil) (len_cons len_nil)) (c.nd ()))
    (dss_cons (ds_for PassesOwn.never (c.calm ()) (di_seq (ev_tup (ea_cons ev_int (ea_cons ev_int (ea_cons ev_int (ea_cons ev_int (ea_cons ev_int ea_nil))))))) (dg_name 2 c.nd) (dss_one (ds_if (et_not (et_val (c_call1 1 c D__law_is_told bd__law_is_told (fun _ => v_pe 1) (ea_cons (v_name 2) ea_nil) (len_cons len_nil)))) (dss_one (ds_ret ev_bl)) dss_nil)))
    (dss_cons (ds_asg (ev_tup (ea_cons (c_call c D__law_kinds bd__law_kinds (ea_cons ev_int ea_nil) (len_cons len_nil)) (ea_cons ev_int (ea_cons (ev_cmp (x_Eq c) (c_call1 1 c D__law_take bd__law_take (fun _ => v_pe 1) (ea_cons ev_int ea_nil) (len_cons len_nil)) ev_int) ea_nil)))) (dg_tup c.calm (dgs_cons (dg_name 4 c.nd) (dgs_cons (dg_name 5 c.nd) (dgs_cons (dg_name 6 c.nd) dgs_nil)))))
    (dss_cons (ds_for PassesOwn.never (c.calm ()) (di_seq (c_call c D__law_lots bd__law_lots (ea_cons ev_int ea_nil) (len_cons len_nil))) (dg_name 3 c.nd) (dss_one (ds_if (EW.et (ew_or (et_val (v_name 6)) (ew_or1 (et_cmp (x_Eq c) (c_call1 1 c D__law_take bd__law_take (fun _ => v_pe 1) (ea_cons ev_int ea_nil) (len_cons len_nil)) ev_int)))) (dss_cons (ds_set 7 (c_callK0 c D_counts_for bk_counts_for_0_odd_many (ekw_cons (v_name 3) (ekw_cons ev_int ekw_nil)) (len_cons (len_cons len_nil)) (fun ds h => perm_len (by decide) h)) (c.nd ()))
    (dss_cons (ds_setLc 8 (own := [("count", 9)]) (vs := [9]) (c.calm ()) (c.nd ()) (di_rng1 (ea_cons ev_int ea_nil) (c.no b_range)) (blkOk_by (by first | rfl | decide +kernel)) (dg_name 9 c.blk.nd) (ets_one (et_cmp (x_In c.blk) (ev_tup (ea_cons (v_name 9) (ea_cons (v_name 3) ea_nil))) (v_name 4))) (ev_imm (v_name 9)))
    (dss_cons (ds_if (EW.et (ew_or (et_cmp (x_Ne c) (ev_callB (x_repr c) (c.no b_repr) (ea_cons (v_name 7) ea_nil)) (ev_callB (x_repr c) (c.no b_repr) (ea_cons (ev_callT (x_tuple c) (c.no b_tuple) (ea_cons (v_name 8) ea_nil)) ea_nil))) (ew_or1 (et_cmp (x_Ne c) (v_name 8) (c_call c D__law_counts bd__law_counts (ea_cons ev_int (ea_cons (v_name 3) ea_nil)) (len_cons (len_cons len_nil))))))) (dss_one (ds_ret ev_bl)) dss_nil)
    (dss_one (ds_set 5 (ev_op (x_Add c) (v_name 5) (ev_callB (x_len c) (c.no b_len) (ea_cons (v_name 7) ea_nil))) (c.nd ())))))) dss_nil)))
    (dss_one (ds_ret (ev_or (ev_not (v_name 6)) (ev_one (ev_cmp (x_Eq c) (v_name 5) ev_int)))))))))
/-! ### the head -/
theorem all_mk {l : PySem.W.OpenLaw} {w : World} {K : PySem.W.Frag} {h : Heap} {mg : Str → Option Value} {fa : Addr} (X : K.In h) (Gn : h.Ns mainGlobals mg) (hfa : mg "law" = some (.ref fa))
    {f0 : Addr} {od0 an0 : Option Addr} {sl0 : Array (Option Value)} {oc0 kV0 dc0 pm0 cd0 ct0 : Value}
    {f1 : Addr} {od1 an1 : Option Addr} {sl1 : Array (Option Value)} {oc1 kV1 dc1 pm1 cd1 ct1 : Value}
    {f2 : Addr} {od2 an2 : Option Addr} {sl2 : Array (Option Value)} {oc2 kV2 dc2 pm2 cd2 ct2 : Value}
    {f3 : Addr} {od3 an3 : Option Addr} {sl3 : Array (Option Value)} {oc3 kV3 dc3 pm3 cd3 ct3 : Value}
    {f4 : Addr} {od4 an4 : Option Addr} {sl4 : Array (Option Value)} {oc4 kV4 dc4 pm4 cd4 ct4 : Value}
    {f5 : Addr} {od5 an5 : Option Addr} {sl5 : Array (Option Value)} {oc5 kV5 dc5 pm5 cd5 ct5 : Value}
    {f6 : Addr} {od6 an6 : Option Addr} {sl6 : Array (Option Value)} {oc6 kV6 dc6 pm6 cd6 ct6 : Value}
    {f7 : Addr} {od7 an7 : Option Addr} {sl7 : Array (Option Value)} {oc7 kV7 dc7 pm7 cd7 ct7 : Value}
    {f8 : Addr} {od8 an8 : Option Addr} {sl8 : Array (Option Value)} {oc8 kV8 dc8 pm8 cd8 ct8 : Value}
    {f9 : Addr} {od9 an9 : Option Addr} {sl9 : Array (Option Value)} {oc9 kV9 dc9 pm9 cd9 ct9 : Value}
    {f10 : Addr} {od10 an10 : Option Addr} {sl10 : Array (Option Value)} {oc10 kV10 dc10 pm10 cd10 ct10 : Value}
    {f11 : Addr} {od11 an11 : Option Addr} {sl11 : Array (Option Value)} {oc11 kV11 dc11 pm11 cd11 ct11 : Value}
    (a0 : PySem.W.nsIn K mainGlobals "_law_urn" = some (some (.ref f0))) (l0 : K.lookup f0 = some ⟨oc0, od0, .func (PySem.W.fnOf "_law_urn" "_law_urn" (defArgs s__law_urn) (defBody s__law_urn) (defScope s__law_urn) .none kV0 dc0 pm0 an0 cd0 ct0), sl0⟩) (c0 : PySem.W.codeIn K cd0 "_law_urn" = true) (k0 : PySem.W.keepIn K (.ref f0) = true)
    (a1 : PySem.W.nsIn K mainGlobals "_law_lots" = some (some (.ref f1))) (l1 : K.lookup f1 = some ⟨oc1, od1, .func (PySem.W.fnOf "_law_lots" "_law_lots" (defArgs s__law_lots) (defBody s__law_lots) (defScope s__law_lots) .none kV1 dc1 pm1 an1 cd1 ct1), sl1⟩) (c1 : PySem.W.codeIn K cd1 "_law_lots" = true) (k1 : PySem.W.keepIn K (.ref f1) = true)
    (a2 : PySem.W.nsIn K mainGlobals "_law_pairs" = some (some (.ref f2))) (l2 : K.lookup f2 = some ⟨oc2, od2, .func (PySem.W.fnOf "_law_pairs" "_law_pairs" (defArgs s__law_pairs) (defBody s__law_pairs) (defScope s__law_pairs) .none kV2 dc2 pm2 an2 cd2 ct2), sl2⟩) (c2 : PySem.W.codeIn K cd2 "_law_pairs" = true) (k2 : PySem.W.keepIn K (.ref f2) = true)
    (a3 : PySem.W.nsIn K mainGlobals "_law_turned" = some (some (.ref f3))) (l3 : K.lookup f3 = some ⟨oc3, od3, .func (PySem.W.fnOf "_law_turned" "_law_turned" (defArgs s__law_turned) (defBody s__law_turned) (defScope s__law_turned) .none kV3 dc3 pm3 an3 cd3 ct3), sl3⟩) (c3 : PySem.W.codeIn K cd3 "_law_turned" = true) (k3 : PySem.W.keepIn K (.ref f3) = true)
    (a4 : PySem.W.nsIn K mainGlobals "_law_kinds" = some (some (.ref f4))) (l4 : K.lookup f4 = some ⟨oc4, od4, .func (PySem.W.fnOf "_law_kinds" "_law_kinds" (defArgs s__law_kinds) (defBody s__law_kinds) (defScope s__law_kinds) .none kV4 dc4 pm4 an4 cd4 ct4), sl4⟩) (c4 : PySem.W.codeIn K cd4 "_law_kinds" = true) (k4 : PySem.W.keepIn K (.ref f4) = true)
    (a5 : PySem.W.nsIn K mainGlobals "_law_take" = some (some (.ref f5))) (l5 : K.lookup f5 = some ⟨oc5, od5, .func (PySem.W.fnOf "_law_take" "_law_take" (defArgs s__law_take) (defBody s__law_take) (defScope s__law_take) .none kV5 dc5 pm5 an5 cd5 ct5), sl5⟩) (c5 : PySem.W.codeIn K cd5 "_law_take" = true) (k5 : PySem.W.keepIn K (.ref f5) = true)
    (a6 : PySem.W.nsIn K mainGlobals "_law_counts" = some (some (.ref f6))) (l6 : K.lookup f6 = some ⟨oc6, od6, .func (PySem.W.fnOf "_law_counts" "_law_counts" (defArgs s__law_counts) (defBody s__law_counts) (defScope s__law_counts) .none kV6 dc6 pm6 an6 cd6 ct6), sl6⟩) (c6 : PySem.W.codeIn K cd6 "_law_counts" = true) (k6 : PySem.W.keepIn K (.ref f6) = true)
    (a7 : PySem.W.nsIn K mainGlobals "pair_count" = some (some (.ref f7))) (l7 : K.lookup f7 = some ⟨oc7, od7, .func (PySem.W.fnOf "pair_count" "pair_count" (defArgs s_pair_count) (defBody s_pair_count) (defScope s_pair_count) .none kV7 dc7 pm7 an7 cd7 ct7), sl7⟩) (c7 : PySem.W.codeIn K cd7 "pair_count" = true) (k7 : PySem.W.keepIn K (.ref f7) = true)
    (a8 : PySem.W.nsIn K mainGlobals "has_webs" = some (some (.ref f8))) (l8 : K.lookup f8 = some ⟨oc8, od8, .func (PySem.W.fnOf "has_webs" "has_webs" (defArgs s_has_webs) (defBody s_has_webs) (defScope s_has_webs) .none kV8 dc8 pm8 an8 cd8 ct8), sl8⟩) (c8 : PySem.W.codeIn K cd8 "has_webs" = true) (k8 : PySem.W.keepIn K (.ref f8) = true)
    (a9 : PySem.W.nsIn K mainGlobals "counts_for" = some (some (.ref f9))) (l9 : K.lookup f9 = some ⟨oc9, od9, .func (PySem.W.fnOf "counts_for" "counts_for" (defArgs s_counts_for) (defBody s_counts_for) (defScope s_counts_for) .none kV9 dc9 pm9 an9 cd9 ct9), sl9⟩) (c9 : PySem.W.codeIn K cd9 "counts_for" = true) (k9 : PySem.W.keepIn K (.ref f9) = true)
    (a10 : PySem.W.nsIn K mainGlobals "_law_is_told" = some (some (.ref f10))) (l10 : K.lookup f10 = some ⟨oc10, od10, .func (PySem.W.fnOf "_law_is_told" "_law_is_told" (defArgs s__law_is_told) (defBody s__law_is_told) (defScope s__law_is_told) .none kV10 dc10 pm10 an10 cd10 ct10), sl10⟩) (c10 : PySem.W.codeIn K cd10 "_law_is_told" = true) (k10 : PySem.W.keepIn K (.ref f10) = true)
    (a11 : PySem.W.nsIn K mainGlobals "law" = some (some (.ref f11))) (l11 : K.lookup f11 = some ⟨oc11, od11, .func (PySem.W.fnOf "law" "law" (defArgs s_law) (defBody s_law) (defScope s_law) .none kV11 dc11 pm11 an11 cd11 ct11), sl11⟩) (c11 : PySem.W.codeIn K cd11 "law" = true) (k11 : PySem.W.keepIn K (.ref f11) = true)
    (z_len : PySem.W.nsIn K mainGlobals "len" = some none)
    (z_abs : PySem.W.nsIn K mainGlobals "abs" = some none)
    (z_int : PySem.W.nsIn K mainGlobals "int" = some none)
    (z_range : PySem.W.nsIn K mainGlobals "range" = some none)
    (z_tuple : PySem.W.nsIn K mainGlobals "tuple" = some none)
    (z_sorted : PySem.W.nsIn K mainGlobals "sorted" = some none)
    (z_list : PySem.W.nsIn K mainGlobals "list" = some none)
    (z_dict : PySem.W.nsIn K mainGlobals "dict" = some none)
    (z_repr : PySem.W.nsIn K mainGlobals "repr" = some none) :
    ∃ fd : FuncData, (∀ (s : Shared) (v : Value), BindsTo s fd ⟨[v], []⟩ [("script", v)]) ∧ ∀ base : Heap, K.In base → base.Ns mainGlobals mg → FnG ⟨l.prog, w, K⟩ mg base 5 fa fd ["script"] [] S_law := by
  have e := hfa.symm.trans (PySem.W.mg_of X Gn a11)
  cases e
  refine ⟨PySem.W.fnOf "law" "law" (defArgs s_law) (defBody s_law) (defScope s_law) .none kV11 dc11 pm11 an11 cd11 ct11, fun s v => .of_eq rfl, fun base _ _ => ?_⟩
  have B_len := PySem.W.mg_none_of X Gn z_len
  have B_abs := PySem.W.mg_none_of X Gn z_abs
  have B_int := PySem.W.mg_none_of X Gn z_int
  have B_range := PySem.W.mg_none_of X Gn z_range
  have B_tuple := PySem.W.mg_none_of X Gn z_tuple
  have B_sorted := PySem.W.mg_none_of X Gn z_sorted
  have B_list := PySem.W.mg_none_of X Gn z_list
  have B_dict := PySem.W.mg_none_of X Gn z_dict
  have B_repr := PySem.W.mg_none_of X Gn z_repr
  have E__law_urn := ok__law_urn (G := ⟨l.prog, w, K⟩) (base := base) (mg := mg) (Fu := fun_mk (st := s__law_urn) l0 c0 k0) (hm := PySem.W.mg_of X Gn a0) (b_len := B_len) (b_abs := B_abs) (b_int := B_int)
  have E__law_lots := ok__law_lots (G := ⟨l.prog, w, K⟩) (base := base) (mg := mg) (Fu := fun_mk (st := s__law_lots) l1 c1 k1) (hm := PySem.W.mg_of X Gn a1) (b_range := B_range)
  have E__law_pairs := ok__law_pairs (G := ⟨l.prog, w, K⟩) (base := base) (mg := mg) (Fu := fun_mk (st := s__law_pairs) l2 c2 k2) (hm := PySem.W.mg_of X Gn a2) (b_range := B_range)
  have E__law_turned := ok__law_turned (G := ⟨l.prog, w, K⟩) (base := base) (mg := mg) (Fu := fun_mk (st := s__law_turned) l3 c3 k3) (hm := PySem.W.mg_of X Gn a3) (b_tuple := B_tuple) (b_sorted := B_sorted)
  have E__law_kinds := ok__law_kinds (G := ⟨l.prog, w, K⟩) (base := base) (mg := mg) (Fu := fun_mk (st := s__law_kinds) l4 c4 k4) (hm := PySem.W.mg_of X Gn a4) (D__law_pairs := E__law_pairs) (D__law_turned := E__law_turned) (b_list := B_list) (b_dict := B_dict)
  have E__law_take := ok__law_take (G := ⟨l.prog, w, K⟩) (base := base) (mg := mg) (Fu := fun_mk (st := s__law_take) l5 c5 k5) (hm := PySem.W.mg_of X Gn a5) (b_int := B_int)
  have E__law_counts := ok__law_counts (G := ⟨l.prog, w, K⟩) (base := base) (mg := mg) (Fu := fun_mk (st := s__law_counts) l6 c6 k6) (hm := PySem.W.mg_of X Gn a6) (b_len := B_len) (b_int := B_int) (b_range := B_range)
  have E_pair_count := ok_pair_count (G := ⟨l.prog, w, K⟩) (base := base) (mg := mg) (Fu := fun_mk (st := s_pair_count) l7 c7 k7) (hm := PySem.W.mg_of X Gn a7)
  have E_has_webs := ok_has_webs (G := ⟨l.prog, w, K⟩) (base := base) (mg := mg) (Fu := fun_mk (st := s_has_webs) l8 c8 k8) (hm := PySem.W.mg_of X Gn a8) (D_pair_count := E_pair_count) (b_len := B_len)
  have E_counts_for := ok_counts_for (G := ⟨l.prog, w, K⟩) (base := base) (mg := mg) (Fu := fun_mk (st := s_counts_for) l9 c9 k9) (hm := PySem.W.mg_of X Gn a9) (D_has_webs := E_has_webs) (D_pair_count := E_pair_count) (b_range := B_range) (b_tuple := B_tuple)
  have E__law_is_told := ok__law_is_told (G := ⟨l.prog, w, K⟩) (base := base) (mg := mg) (Fu := fun_mk (st := s__law_is_told) l10 c10 k10) (hm := PySem.W.mg_of X Gn a10) (D__law_lots := E__law_lots) (D__law_kinds := E__law_kinds) (D__law_take := E__law_take) (D__law_counts := E__law_counts) (D_has_webs := E_has_webs) (D_counts_for := E_counts_for) (b_range := B_range) (b_tuple := B_tuple) (b_repr := B_repr) (b_list := B_list) (b_len := B_len)
  exact ok_law (G := ⟨l.prog, w, K⟩) (base := base) (mg := mg) (Fu := fun_mk (st := s_law) l11 c11 k11) (D__law_urn := E__law_urn) (D__law_lots := E__law_lots) (D__law_kinds := E__law_kinds) (D__law_is_told := E__law_is_told) (D__law_take := E__law_take) (D_counts_for := E_counts_for) (D__law_counts := E__law_counts) (b_range := B_range) (b_repr := B_repr) (b_tuple := B_tuple) (b_len := B_len)
end K30

namespace K30
open VL VL.D
def lot (m : Nat) : D := .tup (nums (bits 6 m))
def goes (many m c : Nat) : Bool :=
  let s := (bits 6 m).length
  let t := if many % 2 = 1 then s else many - s
  let top := many * (many - 1) / 2
  s % 2 == 0 && (decide (s / 2 ≤ c) && (decide (c + t / 2 ≤ top) && (!(s == 0 && (c == 1 || c == 2)) && !(t == 0 && (c + 1 == top || c + 2 == top)))))
def tp (many : Nat) : Nat := many * (many - 1) / 2
def cnts (many m : Nat) : List Nat := (List.range (tp many + 1)).filter (goes many m)
def all6 (f : Nat → Nat → Bool) : Bool := (List.range 7).all fun many => (List.range (2 ^ many)).all fun m => f many m
theorem all6_at {f : Nat → Nat → Bool} (h : all6 f = true) {many m : Nat} (h1 : many ≤ 6) (h2 : m < 2 ^ many) : f many m = true :=
  List.all_eq_true.mp (List.all_eq_true.mp h many (List.mem_range.mpr (by omega))) m (List.mem_range.mpr h2)
theorem counts_for_at {many m : Nat} (h1 : many ≤ 6) (h2 : m < 2 ^ many) : S_counts_for [.int many, lot m] = some (.val (.tup (nums (cnts many m))), [.int many, lot m]) :=
  isV_eq (all6_at (f := fun many m => isV (S_counts_for [.int many, lot m]) (.tup (nums (cnts many m))) [.int many, lot m]) (by decide +kernel) h1 h2)
theorem law_counts_at {many m : Nat} (h1 : many ≤ 6) (h2 : m < 2 ^ many) : S__law_counts [.int many, lot m] = some (.val (.lst (nums (cnts many m))), [.int many, lot m]) :=
  isV_eq (all6_at (f := fun many m => isV (S__law_counts [.int many, lot m]) (.lst (nums (cnts many m))) [.int many, lot m]) (by decide +kernel) h1 h2)
theorem has_webs_at {many m c : Nat} (h1 : many ≤ 6) (h2 : m < 2 ^ many) (h3 : c < tp many + 1) : S_has_webs [.tup [.int many, .int c, lot m]] = some (.val (.bl (goes many m c)), [.tup [.int many, .int c, lot m]]) :=
  isV_eq (List.all_eq_true.mp (all6_at (f := fun many m => (List.range (tp many + 1)).all fun c => isV (S_has_webs [.tup [.int many, .int c, lot m]]) (.bl (goes many m c)) [.tup [.int many, .int c, lot m]]) (by decide +kernel) h1 h2) c (List.mem_range.mpr h3))
theorem in_at {many m c : Nat} (h1 : many ≤ 6) (h2 : m < 2 ^ many) (h3 : c < tp many + 1) : aIn (.int c) (.tup (nums (cnts many m))) = some (.bl (goes many m c)) :=
  isD_eq (List.all_eq_true.mp (all6_at (f := fun many m => (List.range (tp many + 1)).all fun c => isD (aIn (.int c) (.tup (nums (cnts many m)))) (.bl (goes many m c))) (by decide +kernel) h1 h2) c (List.mem_range.mpr h3))
theorem repr_at {many m : Nat} (h1 : many ≤ 6) (h2 : m < 2 ^ many) : ∃ z, fRepr [.tup (nums (cnts many m))] = some (.str z) := by
  have := all6_at (f := fun many m => match fRepr [.tup (nums (cnts many m))] with | some (.str _) => true | _ => false) (by decide +kernel) h1 h2
  split at this
  · exact ⟨_, by assumption⟩
  · cases this
theorem ne_at {many m : Nat} (h1 : many ≤ 6) (h2 : m < 2 ^ many) : fNe (.lst (nums (cnts many m))) (.lst (nums (cnts many m))) = some (.bl false) :=
  isD_eq (all6_at (f := fun many m => isD (fNe (.lst (nums (cnts many m))) (.lst (nums (cnts many m)))) (.bl false)) (by decide +kernel) h1 h2)
theorem list_at {many m : Nat} (h1 : many ≤ 6) (h2 : m < 2 ^ many) : aList [.tup (nums (cnts many m))] = some (.lst (nums (cnts many m))) :=
  isD_eq (all6_at (f := fun many m => isD (aList [.tup (nums (cnts many m))]) (.lst (nums (cnts many m)))) (by decide +kernel) h1 h2)
theorem tuple_at {many m : Nat} (h1 : many ≤ 6) (h2 : m < 2 ^ many) : fTuple [.lst (nums (cnts many m))] = some (.tup (nums (cnts many m))) :=
  isD_eq (all6_at (f := fun many m => isD (fTuple [.lst (nums (cnts many m))]) (.tup (nums (cnts many m)))) (by decide +kernel) h1 h2)
theorem lots_at {many : Nat} (h1 : many ≤ 6) : S__law_lots [.int many] = some (.val (.lst ((List.range (2 ^ many)).map lot)), [.int many]) :=
  isV_eq (List.all_eq_true.mp (show (List.range 7).all (fun many => isV (S__law_lots [.int many]) (.lst ((List.range (2 ^ many)).map lot)) [.int many]) = true by decide +kernel) many (List.mem_range.mpr (by omega)))
def prs (many : Nat) : List (Nat × Nat) := (List.range many).flatMap fun a => ((List.range many).filter fun b => decide (a < b)).map fun b => (a, b)
theorem pairs_at {many : Nat} (h1 : many ≤ 6) : S__law_pairs [.int many] = some (.val (.lst ((prs many).map fun p => .tup [.int p.1, .int p.2])), [.int many]) :=
  isV_eq (List.all_eq_true.mp (show (List.range 7).all (fun many => isV (S__law_pairs [.int many]) (.lst ((prs many).map fun p => .tup [.int p.1, .int p.2])) [.int many]) = true by decide +kernel) many (List.mem_range.mpr (by omega)))
end K30

namespace K30
open VL VL.D
theorem turned_gb : gb__law_turned =
    (sSeq (sIf (tB (g2 aIn (gVar 1) (gVar 0))) (sRet (gN fTuple (gCons (gLc [2] (gSeq (gVar 0)) (nName 2) (tB (g2 fNe (gVar 2) (gVar 1))) (gImm (gVar 2))) gNil))) sNext)
    (sRet (gN fTuple (gCons (gN fSortedI (gCons (g2 aAdd (gVar 0) (gN fTup (gCons (gVar 1) gNil))) gNil)) gNil)))) := by
  rw [← fSorted_eq]
  rfl
theorem turned_at {m p : Nat} (hm : m < 64) (hp : p < 6) : S__law_turned [lot m, .int p] = some (.val (lot (m ^^^ 2 ^ p)), [lot m, .int p]) := by
  refine isV_eq (List.all_eq_true.mp (List.all_eq_true.mp (show (List.range 64).all (fun m => (List.range 6).all fun p => isV (S__law_turned [lot m, .int p]) (lot (m ^^^ 2 ^ p)) [lot m, .int p]) = true from ?_) m (List.mem_range.mpr hm)) p (List.mem_range.mpr hp))
  unfold S__law_turned
  rw [turned_gb]
  decide +kernel
end K30

namespace K30
open PySem VL VL.D
def kd (e : Nat × Nat) : D := .tup [.int e.1, lot e.2]
def ent (e : Nat × Nat) : D × D := (kd e, .bl true)
def tbl (es : List (Nat × Nat)) : D := .dct true (es.map ent)
def ins (es : List (Nat × Nat)) (e : Nat × Nat) : List (Nat × Nat) := if e ∈ es then es else es ++ [e]
theorem lot_inj : ∀ {m n : Nat}, m < 64 → n < 64 → lot m = lot n → m = n := by
  intro m n hm hn h
  have := List.all_eq_true.mp (List.all_eq_true.mp (show (List.range 64).all (fun m => (List.range 64).all fun n => !(eqN 9 (lot m) (lot n)) || decide (m = n)) = true by decide +kernel) m (List.mem_range.mpr hm)) n (List.mem_range.mpr hn)
  have h2 := List.all_eq_true.mp (show (List.range 64).all (fun m => eqN 9 (lot m) (lot m)) = true by decide +kernel) m (List.mem_range.mpr hm)
  rw [← h, h2] at this
  simpa using this
theorem kd_inj {e f : Nat × Nat} (he : e.2 < 64) (hf : f.2 < 64) (h : kd e = kd f) : e = f := by
  obtain ⟨c, m⟩ := e
  obtain ⟨c', m'⟩ := f
  unfold kd at h
  injection h with h
  injection h with h1 h
  injection h with h2 _
  have h1' : c = c' := by
    injection h1 with h1
    exact Int.ofNat.inj h1
  subst h1'
  have := lot_inj he hf h2
  simp only at this
  rw [this]
theorem kd_key {e : Nat × Nat} (h1 : e.1 < 17) (h2 : e.2 < 64) : keyB true (kd e) = true := by
  obtain ⟨c, m⟩ := e
  exact List.all_eq_true.mp (List.all_eq_true.mp (show (List.range 17).all (fun c => (List.range 64).all fun m => keyB true (kd (c, m))) = true by decide +kernel) c (List.mem_range.mpr h1)) m (List.mem_range.mpr h2)
theorem aPut_tbl {e : Nat × Nat} (he : e.2 < 64) : ∀ {es : List (Nat × Nat)}, (∀ x ∈ es, x.2 < 64) → aPut (es.map ent) (kd e) (.bl true) = (ins es e).map ent
  | [], _ => rfl
  | x :: es, h => by
    have hx := h x (List.mem_cons_self ..)
    have ih := aPut_tbl he (es := es) fun y hy => h y (List.mem_cons_of_mem _ hy)
    rw [List.map_cons]
    show aPut ((kd x, .bl true) :: es.map ent) (kd e) (.bl true) = _
    unfold aPut
    by_cases q : x = e
    · subst q
      rw [if_pos rfl]
      unfold ins
      rw [if_pos (List.mem_cons_self ..)]
      rfl
    · rw [if_neg fun z => q (kd_inj hx he z), ih]
      unfold ins
      by_cases q2 : e ∈ es
      · rw [if_pos q2, if_pos (List.mem_cons_of_mem _ q2)]
        rfl
      · rw [if_neg q2, if_neg (by simp [q2]; exact fun z => q z.symm)]
        rfl
theorem aGet_tbl {e : Nat × Nat} (he : e.2 < 64) : ∀ {es : List (Nat × Nat)}, (∀ x ∈ es, x.2 < 64) → (aGet (es.map ent) (kd e)).isSome = decide (e ∈ es)
  | [], _ => rfl
  | x :: es, h => by
    have hx := h x (List.mem_cons_self ..)
    have ih := aGet_tbl he (es := es) fun y hy => h y (List.mem_cons_of_mem _ hy)
    rw [List.map_cons]
    show (aGet ((kd x, .bl true) :: es.map ent) (kd e)).isSome = _
    unfold aGet
    by_cases q : x = e
    · subst q
      rw [if_pos rfl]
      simp
    · rw [if_neg fun z => q (kd_inj hx he z), ih]
      have : ¬ e = x := fun z => q z.symm
      simp [this]
theorem mem_ins {es : List (Nat × Nat)} {e x : Nat × Nat} : x ∈ ins es e ↔ x ∈ es ∨ x = e := by
  unfold ins
  split
  · rename_i h
    constructor
    · exact .inl
    · rintro (h' | rfl)
      · exact h'
      · exact h
  · simp
theorem ins_len {es : List (Nat × Nat)} {e : Nat × Nat} : (ins es e).length ≤ es.length + 1 := by
  unfold ins
  split
  · omega
  · simp
def put2 (x : Nat) (f : List (Nat × Nat)) (e : Nat × Nat) : List (Nat × Nat) := ins (ins f e) (e.1 + 1, e.2 ^^^ x)
def fresh (x : Nat) (es : List (Nat × Nat)) : List (Nat × Nat) := es.foldl (put2 x) []
def again (f : List (Nat × Nat)) : List (Nat × Nat) := f.foldl ins []
def stepK (es : List (Nat × Nat)) (p : Nat × Nat) : List (Nat × Nat) := again (fresh (2 ^ p.1 ^^^ 2 ^ p.2) es)
theorem mem_put2s {x : Nat} {e : Nat × Nat} : ∀ {es f : List (Nat × Nat)}, e ∈ es.foldl (put2 x) f ↔ e ∈ f ∨ ∃ y ∈ es, e = y ∨ e = (y.1 + 1, y.2 ^^^ x)
  | [], f => by simp
  | y :: es, f => by
    rw [List.foldl_cons, mem_put2s]
    unfold put2
    rw [mem_ins, mem_ins]
    constructor
    · rintro (((h | h) | h) | ⟨z, hz, h⟩)
      · exact .inl h
      · exact .inr ⟨y, List.mem_cons_self .., .inl h⟩
      · exact .inr ⟨y, List.mem_cons_self .., .inr h⟩
      · exact .inr ⟨z, List.mem_cons_of_mem _ hz, h⟩
    · rintro (h | ⟨z, hz, h⟩)
      · exact .inl (.inl (.inl h))
      · rcases List.mem_cons.mp hz with rfl | hz
        · rcases h with h | h
          · exact .inl (.inl (.inr h))
          · exact .inl (.inr h)
        · exact .inr ⟨z, hz, h⟩
theorem mem_insS {e : Nat × Nat} : ∀ {es f : List (Nat × Nat)}, e ∈ es.foldl ins f ↔ e ∈ f ∨ e ∈ es
  | [], f => by simp
  | y :: es, f => by
    rw [List.foldl_cons, mem_insS, mem_ins, List.mem_cons]
    constructor
    · rintro ((h | h) | h)
      · exact .inl h
      · exact .inr (.inl h)
      · exact .inr (.inr h)
    · rintro (h | (h | h))
      · exact .inl (.inl h)
      · exact .inl (.inr h)
      · exact .inr h
theorem mem_stepK {e : Nat × Nat} {es : List (Nat × Nat)} {p : Nat × Nat} : e ∈ stepK es p ↔ ∃ y ∈ es, e = y ∨ e = (y.1 + 1, y.2 ^^^ (2 ^ p.1 ^^^ 2 ^ p.2)) := by
  unfold stepK again fresh
  rw [mem_insS, mem_put2s]
  simp
theorem put2s_len {x : Nat} : ∀ {es f : List (Nat × Nat)}, (es.foldl (put2 x) f).length ≤ f.length + 2 * es.length
  | [], f => by simp
  | y :: es, f => by
    rw [List.foldl_cons]
    have h1 := put2s_len (x := x) (es := es) (f := put2 x f y)
    have h2 : (put2 x f y).length ≤ f.length + 2 := by
      unfold put2
      exact Nat.le_trans ins_len (Nat.add_le_add_right ins_len 1)
    rw [List.length_cons]
    omega
theorem insS_len : ∀ {es f : List (Nat × Nat)}, (es.foldl ins f).length ≤ f.length + es.length
  | [], f => by simp
  | y :: es, f => by
    rw [List.foldl_cons]
    have h1 := insS_len (es := es) (f := ins f y)
    have h2 : (ins f y).length ≤ f.length + 1 := ins_len
    rw [List.length_cons]
    omega
structure Fit (i : Nat) (es : List (Nat × Nat)) : Prop where
  cnt : ∀ e ∈ es, e.1 ≤ i
  msk : ∀ e ∈ es, e.2 < 64
  len : es.length ≤ 2 ^ i
theorem xor64 {a b : Nat} (h1 : a < 64) (h2 : b < 64) : a ^^^ b < 64 := Nat.xor_lt_two_pow (n := 6) h1 h2
theorem pw64 {a : Nat} (h : a < 6) : 2 ^ a < 64 := Nat.pow_lt_pow_right (a := 2) (by omega) h
theorem Fit.step {i : Nat} {es : List (Nat × Nat)} {p : Nat × Nat} (h : Fit i es) (h1 : p.1 < 6) (h2 : p.2 < 6) : Fit (i + 1) (stepK es p) where
  cnt e he := by
    obtain ⟨y, hy, rfl | rfl⟩ := mem_stepK.mp he
    · exact Nat.le_succ_of_le (h.cnt _ hy)
    · exact Nat.succ_le_succ (h.cnt _ hy)
  msk e he := by
    obtain ⟨y, hy, rfl | rfl⟩ := mem_stepK.mp he
    · exact h.msk _ hy
    · exact xor64 (h.msk _ hy) (xor64 (pw64 h1) (pw64 h2))
  len := by
    unfold stepK again fresh
    have a := insS_len (es := es.foldl (put2 (2 ^ p.1 ^^^ 2 ^ p.2)) []) (f := [])
    have b := put2s_len (x := 2 ^ p.1 ^^^ 2 ^ p.2) (es := es) (f := [])
    have c := h.len
    simp only [List.length_nil] at a b
    rw [Nat.pow_succ]
    omega
def esOf (many k : Nat) : List (Nat × Nat) := ((prs many).take k).foldl stepK [(0, 0)]
theorem prs_ok {many : Nat} (h : many ≤ 6) : (prs many).all (fun p => decide (p.1 < 6) && decide (p.2 < 6)) = true ∧ (prs many).length ≤ 15 ∧ (prs many).length = tp many := by
  have := List.all_eq_true.mp (show (List.range 7).all (fun many => (prs many).all (fun p => decide (p.1 < 6) && decide (p.2 < 6)) && (decide ((prs many).length ≤ 15) && decide ((prs many).length = tp many))) = true by decide +kernel) many (List.mem_range.mpr (by omega))
  simpa only [Bool.and_eq_true, decide_eq_true_eq] using this
theorem esOf_succ {many k : Nat} {p : Nat × Nat} (h : (prs many)[k]? = some p) : esOf many (k + 1) = stepK (esOf many k) p := by
  unfold esOf
  rw [List.take_add_one, h]
  simp
theorem esOf_fit {many : Nat} (h : many ≤ 6) : ∀ {k : Nat}, k ≤ (prs many).length → Fit k (esOf many k)
  | 0, _ => by
    unfold esOf
    refine ⟨?_, ?_, ?_⟩ <;> simp
  | k + 1, hk => by
    have hl : k < (prs many).length := hk
    have e := List.getElem?_eq_getElem hl
    rw [esOf_succ e]
    have := List.all_eq_true.mp (prs_ok h).1 _ (List.getElem_mem hl)
    simp only [Bool.and_eq_true, decide_eq_true_eq] at this
    exact (esOf_fit h (k := k) (by omega)).step this.1 this.2
theorem imm_tbl : ∀ {es : List (Nat × Nat)}, immL ((es.map ent).map (·.2)) = true
  | [] => rfl
  | e :: es => by
    rw [List.map_cons, List.map_cons, immL, imm_tbl]
    rfl
theorem pairs_tbl : ∀ {es : List (Nat × Nat)}, pairsOf ((es.map ent).map fun q => .tup [q.1, q.2]) = some (es.map ent)
  | [] => rfl
  | e :: es => by
    rw [List.map_cons, List.map_cons]
    unfold pairsOf
    rw [pairs_tbl]
    rfl
theorem aPuts_tbl : ∀ {es f : List (Nat × Nat)}, (∀ x ∈ es, x.2 < 64) → (∀ x ∈ f, x.2 < 64) → (es.map ent).foldl (fun l q => aPut l q.1 q.2) (f.map ent) = (es.foldl ins f).map ent
  | [], f, _, _ => rfl
  | e :: es, f, h, hf => by
    rw [List.map_cons, List.foldl_cons, List.foldl_cons]
    show (es.map ent).foldl _ (aPut (f.map ent) (kd e) (.bl true)) = _
    rw [aPut_tbl (h e (List.mem_cons_self ..)) hf, aPuts_tbl (fun x hx => h x (List.mem_cons_of_mem _ hx))]
    intro x hx
    rcases mem_ins.mp hx with hx | rfl
    · exact hf x hx
    · exact h _ (List.mem_cons_self ..)
theorem items_tbl {es : List (Nat × Nat)} : fItems (tbl es) = some (.lst ((es.map ent).map fun q => .tup [q.1, q.2])) := by
  unfold tbl fItems
  simp only
  rw [if_pos imm_tbl]
theorem dict_tbl {i : Nat} {es : List (Nat × Nat)} (hi : i ≤ 16) (h1 : ∀ e ∈ es, e.1 ≤ i) (h2 : ∀ e ∈ es, e.2 < 64) : fDict true [.lst ((es.map ent).map fun q => .tup [q.1, q.2])] = some (tbl (again es)) := by
  unfold fDict
  simp only [pairs_tbl]
  rw [if_pos]
  · unfold tbl again aPuts
    rw [← aPuts_tbl (f := []) h2 (by simp)]
    rfl
  · rw [imm_tbl, Bool.and_true, List.all_map, List.all_eq_true]
    intro e he
    exact kd_key (by have := h1 e he; omega) (h2 e he)
end K30

namespace K30
open PySem VL VL.D
def PD (p : Nat × Nat) : D := .tup [.int p.1, .int p.2]
theorem store_tbl {i : Nat} {f : List (Nat × Nat)} {e : Nat × Nat} (hi : e.1 < 17) (he : e.2 < 64) (hf : ∀ x ∈ f, x.2 < 64) (hl : f.length < 1000000) : putAtD (tbl f) (kd e) (.bl true) = some (tbl (ins f e)) := by
  unfold tbl putAtD
  simp only [kd_key hi he, List.length_map, hl, aPut_tbl he hf, decide_true, Bool.and_self, if_true]
def inner : DSt → Option Out := (sSeq (sStore 4 (pName 4) (gN fTup (gCons (gVar 5) (gCons (gVar 6) gNil))) (gPure (.bl true)))
    (sStore 4 (pName 4) (gN fTup (gCons (g2 aAdd (gVar 5) (gPure (.int 1))) (gCons (gCall0 S__law_turned (gCons (gCall0 S__law_turned (gCons (gVar 6) (gCons (gVar 2) gNil))) (gCons (gVar 3) gNil))) gNil))) (gPure (.bl true))))
theorem inner_at {d0 : Option D} {d1 : Option D} {a b : Nat} {f : List (Nat × Nat)} {e : Nat × Nat} (h1 : e.1 < 16) (h2 : e.2 < 64) (ha : a < 6) (hb : b < 6) (hf : ∀ x ∈ f, x.2 < 64) (hl : f.length < 900000) :
    inner [d0, d1, some (.int a), some (.int b), some (tbl f), some (.int e.1), some (lot e.2)] = some (.nx [d0, d1, some (.int a), some (.int b), some (tbl (put2 (2 ^ a ^^^ 2 ^ b) f e)), some (.int e.1), some (lot e.2)]) := by
  have t1 := turned_at h2 ha
  have t2 := turned_at (xor64 h2 (pw64 ha)) hb
  have s1 := store_tbl (i := 0) (f := f) (e := e) (by omega) h2 hf (by omega)
  have s2 := store_tbl (i := 0) (f := ins f e) (e := (e.1 + 1, e.2 ^^^ (2 ^ a ^^^ 2 ^ b))) (by simp; omega) (xor64 h2 (xor64 (pw64 ha) (pw64 hb))) (fun x hx => by
    rcases mem_ins.mp hx with hx | rfl
    · exact hf x hx
    · exact h2) (by have := ins_len (es := f) (e := e); omega)
  have e1 : aAdd (.int e.1) (.int 1) = some (.int ((e.1 + 1 : Nat) : Int)) := rfl
  unfold inner put2
  unfold kd at s1 s2
  rw [← Nat.xor_assoc] at s2 ⊢
  simp only [sSeq, sStore, gVar, gN, gCons, gNil, gPure, pName, fTup, gCall0, g2, Option.bind_some, Option.map_some, List.getElem?_cons_succ, List.getElem?_cons_zero, List.length_cons, List.length_nil, List.set_cons_succ, List.set_cons_zero, t1, t2, s1, s2, e1, show (0 + 1 + 1 ≤ 1000) = True from by simp, if_true, id]
def midl : DSt → Option Out := (sSeq (sSet 4 (gPure (.dct true [])))
    (sSeq (sFor (gSeq (gN aList (gCons (gVar 1) gNil))) (nTup 2 (nCons (nName 5) (nCons (nName 6) nNil))) inner)
    (sSet 1 (gN (fDict true) (gCons (g1 fItems (gVar 4)) gNil)))))
theorem kinds_gb : gb__law_kinds = (sSeq (sSet 1 (gDisp true (gkCons (gN fTup (gCons (gPure (.int 0)) (gCons (gN fTup gNil) gNil))) (gPure (.bl true)) gkNil)))
    (sSeq (sFor (gSeq (gCall0 S__law_pairs (gCons (gVar 0) gNil))) (nTup 2 (nCons (nName 2) (nCons (nName 3) nNil))) midl)
    (sRet (gVar 1)))) := rfl
theorem midl_at {d0 d4 d5 d6 : Option D} {i : Nat} {p : Nat × Nat} {es : List (Nat × Nat)} (hi : i < 15) (h : Fit i es) (h1 : p.1 < 6) (h2 : p.2 < 6) :
    ∃ d4' d5' d6', midl [d0, some (tbl es), some (.int p.1), some (.int p.2), d4, d5, d6] = some (.nx [d0, some (tbl (stepK es p)), some (.int p.1), some (.int p.2), d4', d5', d6']) := by
  have hlen : es.length ≤ 32768 := Nat.le_trans h.len (Nat.pow_le_pow_right (n := 2) (by omega) (show i ≤ 15 by omega))
  have hf : ∀ (k : Nat) e, e ∈ (es.take k).foldl (put2 (2 ^ p.1 ^^^ 2 ^ p.2)) [] → e.1 ≤ i + 1 ∧ e.2 < 64 := by
    intro k e he
    rcases mem_put2s.mp he with he | ⟨y, hy, rfl | rfl⟩
    · cases he
    · exact ⟨Nat.le_succ_of_le (h.cnt _ (List.mem_of_mem_take hy)), h.msk _ (List.mem_of_mem_take hy)⟩
    · exact ⟨Nat.succ_le_succ (h.cnt _ (List.mem_of_mem_take hy)), xor64 (h.msk _ (List.mem_of_mem_take hy)) (xor64 (pw64 h1) (pw64 h2))⟩
  obtain ⟨st', e1, c, o, rfl⟩ := loop_to (gt := nTup 2 (nCons (nName 5) (nCons (nName 6) nNil))) (gb := inner) (fun j st => ∃ c o, st = [d0, some (tbl es), some (.int p.1), some (.int p.2), some (tbl ((es.take j).foldl (put2 (2 ^ p.1 ^^^ 2 ^ p.2)) [])), c, o])
    (ds := es.map kd) (k := 0) (st := [d0, some (tbl es), some (.int p.1), some (.int p.2), some (.dct true []), d5, d6]) (fun j d st hd r => by
      rw [Nat.zero_add] at r
      obtain ⟨c, o, rfl⟩ := r
      rw [List.getElem?_map, Option.map_eq_some_iff] at hd
      obtain ⟨e, hd, rfl⟩ := hd
      have he : e ∈ es := List.mem_of_getElem? hd
      have hl : ((es.take j).foldl (put2 (2 ^ p.1 ^^^ 2 ^ p.2)) []).length < 900000 := by
        have := put2s_len (x := 2 ^ p.1 ^^^ 2 ^ p.2) (es := es.take j) (f := [])
        rw [List.length_take, List.length_nil] at this
        have := Nat.min_le_right j es.length
        omega
      refine ⟨_, _, ?_, inner_at (d0 := d0) (d1 := some (tbl es)) (by have := h.cnt e he; omega) (h.msk e he) h1 h2 (fun x hx => (hf j x hx).2) hl, some (.int e.1), some (lot e.2), ?_⟩
      · unfold kd
        simp only [nTup, nCons, nName, nNil, Option.bind_some, Option.map_some, List.set_cons_succ, List.set_cons_zero, List.length_cons, List.length_nil, if_true]
      · rw [Nat.zero_add, List.take_add_one, hd]
        simp only [Option.toList, List.foldl_append, List.foldl_cons, List.foldl_nil]) ⟨d5, d6, rfl⟩
  rw [Nat.zero_add, List.length_map, List.take_length] at e1
  refine ⟨some (tbl (fresh (2 ^ p.1 ^^^ 2 ^ p.2) es)), c, o, ?_⟩
  have hf' := hf es.length
  rw [List.take_length] at hf'
  have e2 := dict_tbl (i := i + 1) (es := fresh (2 ^ p.1 ^^^ 2 ^ p.2) es) (by omega) (fun e he => (hf' e he).1) (fun e he => (hf' e he).2)
  have e3 : aList [tbl es] = some (.lst (es.map kd)) := by
    show some (D.lst ((es.map ent).map (·.1))) = _
    rw [List.map_map]
    rfl
  unfold midl
  simp only [sSeq, sSet, sFor, gSeq, gVar, gN, gCons, gNil, gPure, g1, itemsOf, Option.bind_some, Option.map_some, List.getElem?_cons_succ, List.getElem?_cons_zero, List.set_cons_succ, List.set_cons_zero, e3, e1]
  unfold fresh at e2
  simp only [items_tbl, e2, Option.bind_some, Option.map_some]
  rfl
theorem esOf_zero {many : Nat} : esOf many 0 = [(0, 0)] := by simp [esOf]
theorem disp_at (d0 : Option D) : gDisp true (gkCons (gN fTup (gCons (gPure (.int 0)) (gCons (gN fTup gNil) gNil))) (gPure (.bl true)) gkNil) [d0, none, none, none, none, none, none] = some (tbl [(0, 0)], [d0, none, none, none, none, none, none]) := rfl
end K30

namespace K30
open PySem VL VL.D
theorem kinds_end {many : Nat} {ds : List D} {a b d4 d5 d6 : Option D} {t : D} (e0 : S__law_pairs [.int many] = some (.val (.lst ds), [.int many]))
    (e1 : loopL (nTup 2 (nCons (nName 2) (nCons (nName 3) nNil))) midl ds [some (.int many), some (tbl [(0, 0)]), none, none, none, none, none] = some (.nx [some (.int many), some t, a, b, d4, d5, d6])) : S__law_kinds [.int many] = some (.val t, [.int many]) := by
  unfold S__law_kinds
  refine semB_val (s1 := [some (.int many), none, none, none, none, none, none]) rfl rfl (st := [some (.int many), some t, a, b, d4, d5, d6]) ?_ rfl
  rw [kinds_gb, sSeq_nx (sSet_nx (disp_at _)), sSeq_nx (sFor_nx (gSeq_of (gCall0_of rfl e0) rfl) e1)]
  rfl
theorem kinds_at {many : Nat} (h : many ≤ 6) : S__law_kinds [.int many] = some (.val (tbl (esOf many (tp many))), [.int many]) := by
  have e0 := pairs_at h
  have ok := prs_ok h
  obtain ⟨st', e1, a, b, d4, d5, d6, rfl⟩ := loop_to (gt := nTup 2 (nCons (nName 2) (nCons (nName 3) nNil))) (gb := midl) (fun j st => ∃ a b d4 d5 d6, st = [some (.int many), some (tbl (esOf many j)), a, b, d4, d5, d6])
    (ds := (prs many).map PD) (k := 0) (st := [some (.int many), some (tbl [(0, 0)]), none, none, none, none, none]) (fun j d st hd r => by
      rw [Nat.zero_add] at r
      obtain ⟨a, b, d4, d5, d6, rfl⟩ := r
      rw [List.getElem?_map, Option.map_eq_some_iff] at hd
      obtain ⟨p, hd, rfl⟩ := hd
      have hp := List.all_eq_true.mp ok.1 p (List.mem_of_getElem? hd)
      simp only [Bool.and_eq_true, decide_eq_true_eq] at hp
      have hj : j < (prs many).length := (List.getElem?_eq_some_iff.mp hd).1
      obtain ⟨x, y, z, m⟩ := midl_at (d0 := some (.int many)) (d4 := d4) (d5 := d5) (d6 := d6) (i := j) (p := p) (es := esOf many j) (by omega) (esOf_fit h (by omega)) hp.1 hp.2
      refine ⟨_, _, ?_, m, some (.int p.1), some (.int p.2), x, y, z, ?_⟩
      · unfold PD
        simp only [nTup, nCons, nName, nNil, Option.bind_some, Option.map_some, List.set_cons_succ, List.set_cons_zero, List.length_cons, List.length_nil, if_true]
      · rw [Nat.zero_add, esOf_succ hd]) ⟨none, none, none, none, none, by rw [esOf_zero]⟩
  rw [Nat.zero_add, List.length_map, ok.2.2] at e1
  exact kinds_end e0 (by unfold PD at e1; exact e1)
end K30

namespace K30
open PySem VL VL.D
def rowK (rs : List Nat) (p : Nat × Nat) : List Nat := (List.range 64).map fun m => rs.getD m 0 ||| (rs.getD (m ^^^ (2 ^ p.1 ^^^ 2 ^ p.2)) 0 <<< 1)
def row0 : List Nat := 1 :: List.replicate 63 0
def rows (many k : Nat) : List Nat := ((prs many).take k).foldl rowK row0
def Spec (es : List (Nat × Nat)) (rs : List Nat) : Prop := ∀ m, m < 64 → ∀ c, (c, m) ∈ es ↔ (rs.getD m 0).testBit c = true
theorem spec0 : Spec [(0, 0)] row0 := by
  intro m hm c
  by_cases h : m = 0
  · subst h
    simp only [row0, List.mem_singleton, Prod.mk.injEq, and_true, List.getD_cons_zero]
    cases c <;> simp [Nat.testBit_succ]
  · have := List.all_eq_true.mp (show (List.range 64).all (fun m => decide (m = 0) || row0.getD m 0 == 0) = true by decide +kernel) m (List.mem_range.mpr hm)
    simp only [Bool.or_eq_true, decide_eq_true_eq, h, false_or, beq_iff_eq] at this
    rw [this]
    simp [h]
theorem spec_step {es : List (Nat × Nat)} {rs : List Nat} {p : Nat × Nat} (h1 : p.1 < 6) (h2 : p.2 < 6) (hf : ∀ e ∈ es, e.2 < 64) (h : Spec es rs) : Spec (stepK es p) (rowK rs p) := by
  intro m hm c
  have hx := xor64 (pw64 h1) (pw64 h2)
  generalize hxx : 2 ^ p.1 ^^^ 2 ^ p.2 = x at hx
  rw [mem_stepK, hxx]
  have e : (rowK rs p).getD m 0 = (rs.getD m 0 ||| (rs.getD (m ^^^ x) 0 <<< 1)) := by
    unfold rowK
    rw [hxx, List.getD_eq_getElem?_getD, List.getElem?_map, List.getElem?_range hm]
    rfl
  rw [e, Nat.testBit_or, Nat.testBit_shiftLeft, Bool.or_eq_true, Bool.and_eq_true, decide_eq_true_eq, ← h m hm]
  constructor
  · rintro ⟨y, hy, q | q⟩
    · rw [q]
      exact .inl hy
    · obtain ⟨q1, q2⟩ := Prod.mk.inj q
      refine .inr ⟨by omega, ?_⟩
      rw [← h _ (xor64 hm hx)]
      have : m ^^^ x = y.2 := by rw [q2, Nat.xor_assoc, Nat.xor_self, Nat.xor_zero]
      rw [this, q1, Nat.add_sub_cancel]
      exact hy
  · rintro (q | ⟨q1, q2⟩)
    · exact ⟨_, q, .inl rfl⟩
    · rw [← h _ (xor64 hm hx)] at q2
      refine ⟨_, q2, .inr ?_⟩
      simp only [Nat.xor_assoc, Nat.xor_self, Nat.xor_zero]
      rw [Nat.sub_add_cancel q1]
theorem spec_at {many : Nat} (h : many ≤ 6) : ∀ {k : Nat}, k ≤ (prs many).length → Spec (esOf many k) (rows many k)
  | 0, _ => by
    rw [esOf_zero]
    unfold rows
    rw [List.take_zero]
    exact spec0
  | k + 1, hk => by
    have hl : k < (prs many).length := hk
    have e := List.getElem?_eq_getElem hl
    rw [esOf_succ e]
    have := List.all_eq_true.mp (prs_ok h).1 _ (List.getElem_mem hl)
    simp only [Bool.and_eq_true, decide_eq_true_eq] at this
    have r : rows many (k + 1) = rowK (rows many k) (prs many)[k] := by
      unfold rows
      rw [List.take_add_one, e]
      simp only [Option.toList, List.foldl_append, List.foldl_cons, List.foldl_nil]
    rw [r]
    exact spec_step this.1 this.2 (esOf_fit h (k := k) (by omega)).msk (spec_at h (k := k) (by omega))
def chk (many : Nat) : Bool := (List.range (2 ^ many)).all fun m => (List.range (tp many + 1)).all fun c => ((rows many (tp many)).getD m 0).testBit c == goes many m c
theorem chk_all : (List.range 7).all chk = true := by decide +kernel
theorem mem_at {many m c : Nat} (h1 : many ≤ 6) (h2 : m < 2 ^ many) (h3 : c < tp many + 1) : decide ((c, m) ∈ esOf many (tp many)) = goes many m c := by
  have := List.all_eq_true.mp (List.all_eq_true.mp (List.all_eq_true.mp chk_all many (List.mem_range.mpr (by omega))) m (List.mem_range.mpr h2)) c (List.mem_range.mpr h3)
  rw [← eq_of_beq this]
  have sp := spec_at h1 (k := tp many) (by rw [(prs_ok h1).2.2]; exact Nat.le_refl _) m (Nat.lt_of_lt_of_le h2 (Nat.pow_le_pow_right (n := 2) (by omega) (show many ≤ 6 from h1))) c
  rw [Bool.eq_iff_iff, decide_eq_true_eq, sp]
theorem tbl_at {many m c : Nat} (h1 : many ≤ 6) (h2 : m < 2 ^ many) (h3 : c < tp many + 1) : aIn (.tup [.int c, lot m]) (tbl (esOf many (tp many))) = some (.bl (goes many m c)) := by
  have hm : m < 64 := Nat.lt_of_lt_of_le h2 (Nat.pow_le_pow_right (n := 2) (by omega) (show many ≤ 6 from h1))
  have hc : tp many ≤ 15 := by
    have := (prs_ok h1).2
    omega
  have e := aGet_tbl (e := (c, m)) (es := esOf many (tp many)) hm (esOf_fit h1 (k := tp many) (by rw [(prs_ok h1).2.2]; exact Nat.le_refl _)).msk
  rw [mem_at h1 h2 h3] at e
  have k := kd_key (e := (c, m)) (by simp; omega) hm
  unfold kd at e k
  show (match fInSeq false (.tup [.int c, lot m]) (tbl (esOf many (tp many))) with
    | some z => some z
    | none => fInDct (.tup [.int c, lot m]) (tbl (esOf many (tp many)))) = _
  have : fInSeq false (.tup [.int c, lot m]) (tbl (esOf many (tp many))) = none := by
    have q : toP (tbl (esOf many (tp many))) = none := by
      unfold tbl
      simp only [toP]
    unfold fInSeq
    rw [q]
    split
    · rename_i x; cases x
    · rename_i x; cases x
    · rfl
  rw [this]
  unfold tbl fInDct
  simp only
  rw [if_pos k, e]
end K30

namespace K30
open PySem VL VL.D
theorem take30 {ds : List Int} {s : Int} {m : Nat} (hm : m < 2 ^ 64) (u : UrnOk ds s) : ∃ (ds' : List Int) (s' : Int) (c : Nat), UrnOk ds' s' ∧ (c < m ∨ c = 0) ∧ S__law_take [urnD ds s, .int m] = some (.val (.int c), [urnD ds' s', .int m]) := take_at hm u
theorem urn30_gb : gb__law_urn = gbUrn 283411 10 18 2862933555777941757 3037000493 2305843009213693951 := rfl
theorem urn30 {ns : List Int} (h : ns.length ≤ 63) : ∃ ds s, UrnOk ds s ∧ S__law_urn [.frl (ns.map .int)] = some (.val (urnD ds s), [.frl (ns.map .int)]) := by
  unfold S__law_urn
  rw [urn30_gb]
  exact urn_at h (by decide) (by decide) (by decide) (by decide) (by decide) (by decide) rfl
def repOk (d : D) : Bool := match fRepr [d] with
  | some (.str z) => isD (fNe (.str z) (.str z)) (.bl false)
  | _ => false
theorem rep_of {d : D} (h : repOk d = true) : ∃ z, fRepr [d] = some (.str z) ∧ fNe (.str z) (.str z) = some (.bl false) := by
  unfold repOk at h
  split at h
  · exact ⟨_, by assumption, isD_eq h⟩
  · cases h
theorem rep_cnts {many m : Nat} (h1 : many ≤ 6) (h2 : m < 2 ^ many) : ∃ z, fRepr [.tup (nums (cnts many m))] = some (.str z) ∧ fNe (.str z) (.str z) = some (.bl false) :=
  rep_of (all6_at (f := fun many m => repOk (.tup (nums (cnts many m)))) (by decide +kernel) h1 h2)
theorem rep_bl (b : Bool) : ∃ z, fRepr [.bl b] = some (.str z) ∧ fNe (.str z) (.str z) = some (.bl false) := by
  cases b
  · exact rep_of (by decide +kernel)
  · exact rep_of (by decide +kernel)
theorem eqI (i j : Int) : fEq (.int i) (.int j) = some (.bl (i == j)) := by
  unfold fEq
  simp only [toP, show SeqAt.shaped (.int i) = true by simp [SeqAt.shaped, PyData.canLay0, PyData.depth], show SeqAt.shaped (.int j) = true by simp [SeqAt.shaped, PyData.canLay0, PyData.depth], Bool.and_self, if_true, PyData.eqv]
theorem rng_nat {n : Nat} (h : n ≤ 100) : fRng1 [.int n] = some (nums (List.range n)) := by
  unfold fRng1
  simp only
  rw [if_pos (by simp [bndB]; omega)]
  unfold rngD nums
  rw [Int.toNat_natCast]
  simp
theorem tp_le {many : Nat} (h : many ≤ 6) : tp many ≤ 15 := by
  have := (prs_ok h).2
  omega
def isC (many m : Nat) : D → Bool
  | .int c => goes many m c.toNat
  | _ => false
theorem due_list {many m : Nat} : (((nums (List.range (tp many + 1))).filter (isC many m)).map id) = nums (cnts many m) := by
  unfold nums cnts
  rw [List.map_id, List.filter_map]
  congr 1
theorem addN (n : Nat) : aAdd (.int n) (.int 1) = some (.int ((n + 1 : Nat) : Int)) := rfl
def dueG : DSt → Option (D × DSt) := gLc [8] (gItems fRng1 (gCons (g2 aAdd (gVar 2) (gPure (.int 1))) gNil)) (nName 8) (tB (g2 aIn (gN fTup (gCons (gVar 8) (gCons (gVar 3) gNil))) (gVar 4))) (gImm (gVar 8))
theorem due_at {many m : Nat} {u d1 d5 d6 d7 d8 d9 : Option D} (h1 : many ≤ 6) (h2 : m < 2 ^ many) :
    dueG [u, d1, some (.int (tp many)), some (lot m), some (tbl (esOf many (tp many))), d5, d6, d7, d8, d9] = some (.lst (nums (cnts many m)), [u, d1, some (.int (tp many)), some (lot m), some (tbl (esOf many (tp many))), d5, d6, d7, d8, d9]) := by
  have e : lcL [8] (nName 8) (tB (g2 aIn (gN fTup (gCons (gVar 8) (gCons (gVar 3) gNil))) (gVar 4))) (gImm (gVar 8)) (nums (List.range (tp many + 1))) [u, d1, some (.int (tp many)), some (lot m), some (tbl (esOf many (tp many))), d5, d6, d7, none, d9] = some (nums (cnts many m), [u, d1, some (.int (tp many)), some (lot m), some (tbl (esOf many (tp many))), d5, d6, d7, none, d9]) := by
    rw [lcL_pure (isC many m) id, due_list]
    intro d hd
    obtain ⟨c, hc, rfl⟩ := List.mem_map.mp hd
    have hc' := List.mem_range.mp hc
    refine ⟨[u, d1, some (.int (tp many)), some (lot m), some (tbl (esOf many (tp many))), d5, d6, d7, some (.int c), d9], rfl, ?_, fun _ => gImm_of (gVar_of rfl) rfl, rfl⟩
    exact tB_of (g2_of (gN_of (gCons_of (gVar_of rfl) (gCons_of (gVar_of rfl) gNil_of)) rfl) (gVar_of rfl) (tbl_at h1 h2 hc'))
  unfold dueG
  refine (gLc_of (gItems_of (gCons_of (g2_of (gVar_of rfl) gPure_of (addN _)) gNil_of) (rng_nat (n := tp many + 1) (by have := tp_le h1; omega))) e ?_).trans rfl
  unfold nums cnts
  rw [List.length_map]
  have := List.length_filter_le (goes many m) (List.range (tp many + 1))
  rw [List.length_range] at this
  have := tp_le h1
  omega
def turnG : DSt → Option Out := (sSeq (sSet 8 (gCall1 S__law_take 0 (gCons (g2 aAdd (gVar 2) (gPure (.int 1))) gNil)))
    (sSeq (sSet 9 (gIf (tB (g2 fEq (gVar 7) (gPure (.int 1)))) (gCallK S_has_webs [0] gNil (gCons (gN fTup (gCons (gVar 1) (gCons (gVar 8) (gCons (gVar 3) gNil)))) gNil)) (gCall0 S_has_webs (gCons (gN fTup (gCons (gVar 1) (gCons (gVar 8) (gCons (gVar 3) gNil)))) gNil))))
    (sIf (tB (g2 fNe (gN fRepr (gCons (gVar 9) gNil)) (gN fRepr (gCons (g2 aIn (gVar 8) (gVar 6)) gNil)))) (sRet (gPure (.bl false))) sNext)))
theorem turn_at {many m : Nat} {d4 d5 d8 d9 : Option D} {ds : List Int} {s t : Int} (h1 : many ≤ 6) (h2 : m < 2 ^ many) (u : UrnOk ds s) :
    ∃ ds' s' d8' d9', UrnOk ds' s' ∧ turnG [some (urnD ds s), some (.int many), some (.int (tp many)), some (lot m), d4, d5, some (.tup (nums (cnts many m))), some (.int t), d8, d9] = some (.nx [some (urnD ds' s'), some (.int many), some (.int (tp many)), some (lot m), d4, d5, some (.tup (nums (cnts many m))), some (.int t), d8', d9']) := by
  have htp := tp_le h1
  obtain ⟨ds', s', c, u', hc, e⟩ := take30 (m := tp many + 1) (by omega) u
  have hc' : c < tp many + 1 := by omega
  obtain ⟨z, z1, z2⟩ := rep_bl (goes many m c)
  refine ⟨ds', s', some (.int c), some (.bl (goes many m c)), u', ?_⟩
  unfold turnG
  refine (sSeq_nx (sSet_nx (gCall1_of (gVar_of rfl) (gCons_of (g2_of (gVar_of rfl) gPure_of (addN _)) gNil_of) rfl e))).trans ?_
  show sSeq _ _ [some (urnD ds' s'), some (.int many), some (.int (tp many)), some (lot m), d4, d5, some (.tup (nums (cnts many m))), some (.int t), some (.int c), d9] = _
  have ea : gN fTup (gCons (gVar 1) (gCons (gVar 8) (gCons (gVar 3) gNil))) [some (urnD ds' s'), some (.int many), some (.int (tp many)), some (lot m), d4, d5, some (.tup (nums (cnts many m))), some (.int t), some (.int c), d9] = some (.tup [.int many, .int c, lot m], [some (urnD ds' s'), some (.int many), some (.int (tp many)), some (lot m), d4, d5, some (.tup (nums (cnts many m))), some (.int t), some (.int c), d9]) :=
    gN_of (gCons_of (gVar_of rfl) (gCons_of (gVar_of rfl) (gCons_of (gVar_of rfl) gNil_of))) rfl
  have eh := has_webs_at h1 h2 hc'
  refine (sSeq_nx (sSet_nx (d := .bl (goes many m c)) (s1 := [some (urnD ds' s'), some (.int many), some (.int (tp many)), some (lot m), d4, d5, some (.tup (nums (cnts many m))), some (.int t), some (.int c), d9]) ?_)).trans ?_
  · cases ht : (t == (1 : Int))
    · refine (gIf_f (tB_of (g2_of (gVar_of rfl) gPure_of (by rw [eqI, ht])))).trans ?_
      exact gCall0_of (gCons_of ea gNil_of) eh
    · refine (gIf_t (tB_of (g2_of (gVar_of rfl) gPure_of (by rw [eqI, ht])))).trans ?_
      exact gCallK_of (fs := []) gNil_of (gCons_of ea gNil_of) eh
  · refine (sIf_f (tB_of (g2_of (gN_of (gCons_of (gVar_of rfl) gNil_of) z1) (gN_of (gCons_of (g2_of (gVar_of rfl) (gVar_of rfl) (in_at h1 h2 hc')) gNil_of) z1) z2))).trans ?_
    rfl
def oddG : DSt → Option Out := (sSeq (sSet 6 (gN fTuple (gCons dueG gNil)))
    (sSeq (sIf (tOr (tB (g2 fNe (gN fRepr (gCons (gCall0 S_counts_for (gCons (gVar 1) (gCons (gVar 3) gNil))) gNil)) (gN fRepr (gCons (gVar 6) gNil)))) (tB (g2 fNe (gN aList (gCons (gVar 6) gNil)) (gCall0 S__law_counts (gCons (gVar 1) (gCons (gVar 3) gNil)))))) (sRet (gPure (.bl false))) sNext)
    (sSeq (sSet 5 (g2 aAdd (gVar 5) (gN aLen (gCons (gVar 6) gNil))))
    (sFor (gItems fRng1 (gCons (gPure (.int 2)) gNil)) (nName 7) turnG))))
theorem told_gb : gb__law_is_told = (sSeq (sAsg (gN fTup (gCons (gCall0 S__law_kinds (gCons (gVar 1) gNil)) (gCons (gPure (.int 0)) gNil))) (nTup 2 (nCons (nName 4) (nCons (nName 5) nNil))))
    (sSeq (sSet 2 (g2 fDiv (g2 aMul (gVar 1) (g2 fSub (gVar 1) (gPure (.int 1)))) (gPure (.int 2))))
    (sSeq (sFor (gSeq (gCall0 S__law_lots (gCons (gVar 1) gNil))) (nName 3) oddG)
    (sRet (g2 fEq (gVar 5) (g2 aIx (gN fLst (gCons (gPure (.int 0)) (gCons (gPure (.int 1)) (gCons (gPure (.int 2)) (gCons (gPure (.int 8)) (gCons (gPure (.int 36)) (gCons (gPure (.int 132)) gNil))))))) (gVar 1))))))) := rfl
theorem odd_at {many m : Nat} {d6 d7 d8 d9 : Option D} {ds : List Int} {s : Int} {t : Nat} (h1 : many ≤ 6) (h2 : m < 2 ^ many) (u : UrnOk ds s) :
    ∃ ds' s' d6' d7' d8' d9', UrnOk ds' s' ∧ oddG [some (urnD ds s), some (.int many), some (.int (tp many)), some (lot m), some (tbl (esOf many (tp many))), some (.int t), d6, d7, d8, d9] = some (.nx [some (urnD ds' s'), some (.int many), some (.int (tp many)), some (lot m), some (tbl (esOf many (tp many))), some (.int ((t + (cnts many m).length : Nat) : Int)), d6', d7', d8', d9']) := by
  obtain ⟨z, z1, z2⟩ := rep_cnts h1 h2
  obtain ⟨ds1, s1, a8, a9, u1, e1⟩ := turn_at (d4 := some (tbl (esOf many (tp many)))) (d5 := some (.int ((t + (cnts many m).length : Nat) : Int))) (d8 := d8) (d9 := d9) (t := 0) h1 h2 u
  obtain ⟨ds2, s2, b8, b9, u2, e2⟩ := turn_at (d4 := some (tbl (esOf many (tp many)))) (d5 := some (.int ((t + (cnts many m).length : Nat) : Int))) (d8 := a8) (d9 := a9) (t := 1) h1 h2 u1
  refine ⟨ds2, s2, some (.tup (nums (cnts many m))), some (.int 1), b8, b9, u2, ?_⟩
  unfold oddG
  refine (sSeq_nx (sSet_nx (gN_of (gCons_of (due_at h1 h2) gNil_of) (tuple_at h1 h2)))).trans ?_
  show sSeq _ _ [some (urnD ds s), some (.int many), some (.int (tp many)), some (lot m), some (tbl (esOf many (tp many))), some (.int t), some (.tup (nums (cnts many m))), d7, d8, d9] = _
  have eg : gCons (gVar 1) (gCons (gVar 3) gNil) [some (urnD ds s), some (.int many), some (.int (tp many)), some (lot m), some (tbl (esOf many (tp many))), some (.int t), some (.tup (nums (cnts many m))), d7, d8, d9] = some ([.int many, lot m], [some (urnD ds s), some (.int many), some (.int (tp many)), some (lot m), some (tbl (esOf many (tp many))), some (.int t), some (.tup (nums (cnts many m))), d7, d8, d9]) :=
    gCons_of (gVar_of rfl) (gCons_of (gVar_of rfl) gNil_of)
  refine (sSeq_nx (s1 := [some (urnD ds s), some (.int many), some (.int (tp many)), some (lot m), some (tbl (esOf many (tp many))), some (.int t), some (.tup (nums (cnts many m))), d7, d8, d9]) ?_).trans ?_
  · refine (sIf_f ((tOr_f (tB_of (g2_of (gN_of (gCons_of (gCall0_of eg (counts_for_at h1 h2)) gNil_of) z1) (gN_of (gCons_of (gVar_of rfl) gNil_of) z1) z2))).trans (tB_of (g2_of (gN_of (gCons_of (gVar_of rfl) gNil_of) (list_at h1 h2)) (gCall0_of eg (law_counts_at h1 h2)) (ne_at h1 h2))))).trans ?_
    rfl
  · refine (sSeq_nx (sSet_nx (g2_of (gVar_of rfl) (gN_of (gCons_of (gVar_of rfl) gNil_of) rfl) addI))).trans ?_
    have el : (t : Int) + ((nums (cnts many m)).length : Nat) = ((t + (cnts many m).length : Nat) : Int) := by
      unfold nums
      rw [List.length_map]
      rfl
    rw [el]
    refine sFor_nx (gItems_of (gCons_of gPure_of gNil_of) (rng_nat (n := 2) (by omega))) ?_
    show loopL (nName 7) turnG [.int 0, .int 1] _ = _
    unfold loopL
    refine (Option.bind_eq_some_iff.mpr ⟨_, rfl, Option.bind_eq_some_iff.mpr ⟨_, e1, ?_⟩⟩)
    show loopL (nName 7) turnG [.int 1] _ = _
    unfold loopL
    refine (Option.bind_eq_some_iff.mpr ⟨_, rfl, Option.bind_eq_some_iff.mpr ⟨_, e2, ?_⟩⟩)
    rfl
end K30

namespace K30
open PySem VL VL.D
def tot (many i : Nat) : Nat := ((List.range i).map fun m => (cnts many m).length).sum
theorem tot_succ {many i : Nat} : tot many (i + 1) = tot many i + (cnts many i).length := by
  unfold tot
  rw [List.range_succ, List.map_append, List.sum_append]
  simp
theorem top_at {many : Nat} (h : many ≤ 6) : (many : Int) * ((many : Int) - 1) / 2 = (tp many : Nat) := by
  have := (show ∀ n : Fin 7, ((n.val : Nat) : Int) * ((n.val : Int) - 1) / 2 = ((tp n.val : Nat) : Int) by decide) ⟨many, by omega⟩
  exact this
theorem six_at {many : Nat} (h : many ≤ 5) (h' : 1 ≤ many) : aIx (.lst [.int 0, .int 1, .int 2, .int 8, .int 36, .int 132]) (.int many) = some (.int ((tot many (2 ^ many) : Nat) : Int)) := by
  have := List.all_eq_true.mp (show (List.range 6).all (fun many => decide (many = 0) || isD (aIx (.lst [.int 0, .int 1, .int 2, .int 8, .int 36, .int 132]) (.int many)) (.int ((tot many (2 ^ many) : Nat) : Int))) = true by decide +kernel) many (List.mem_range.mpr (by omega))
  rw [Bool.or_eq_true, decide_eq_true_eq] at this
  rcases this with q | q
  · omega
  · exact isD_eq q
theorem tot6 : tot 6 64 = 412 := by decide +kernel
theorem lot_get {many j : Nat} {d : D} (hd : ((List.range (2 ^ many)).map lot)[j]? = some d) : d = lot j ∧ j < 2 ^ many := by
  rw [List.getElem?_map, Option.map_eq_some_iff] at hd
  obtain ⟨n, hd, rfl⟩ := hd
  obtain ⟨hj, e⟩ := List.getElem?_eq_some_iff.mp hd
  rw [List.getElem_range] at e
  subst e
  rw [List.length_range] at hj
  exact ⟨rfl, hj⟩
theorem told_at {many : Nat} {ds : List Int} {s : Int} (h0 : 1 ≤ many) (h1 : many ≤ 5) (u : UrnOk ds s) : ∃ ds' s', UrnOk ds' s' ∧ S__law_is_told [urnD ds s, .int many] = some (.val (.bl true), [urnD ds' s', .int many]) := by
  have h6 : many ≤ 6 := by omega
  obtain ⟨st', e1, ds', s', o, d6, d7, d8, d9, u', rfl⟩ := loop_to (gt := nName 3) (gb := oddG) (fun j st => ∃ ds' s' o d6 d7 d8 d9, UrnOk ds' s' ∧ st = [some (urnD ds' s'), some (.int many), some (.int (tp many)), o, some (tbl (esOf many (tp many))), some (.int (tot many j : Nat)), d6, d7, d8, d9])
    (ds := (List.range (2 ^ many)).map lot) (k := 0) (st := [some (urnD ds s), some (.int many), some (.int (tp many)), none, some (tbl (esOf many (tp many))), some (.int (0 : Nat)), none, none, none, none]) (fun j d st hd r => by
      rw [Nat.zero_add] at r ⊢
      obtain ⟨ds', s', o, d6, d7, d8, d9, u', rfl⟩ := r
      obtain ⟨rfl, hj⟩ := lot_get hd
      obtain ⟨ds2, s2, b6, b7, b8, b9, u2, e⟩ := odd_at (t := tot many j) (d6 := d6) (d7 := d7) (d8 := d8) (d9 := d9) h6 hj u'
      exact ⟨_, _, rfl, e, ds2, s2, some (lot j), b6, b7, b8, b9, u2, by rw [tot_succ]⟩) ⟨ds, s, none, none, none, none, none, u, rfl⟩
  rw [Nat.zero_add, List.length_map, List.length_range] at e1
  refine ⟨ds', s', u', ?_⟩
  unfold S__law_is_told
  refine semB_val (s1 := [some (urnD ds s), some (.int many), none, none, none, none, none, none, none, none]) rfl rfl (st := [some (urnD ds' s'), some (.int many), some (.int (tp many)), o, some (tbl (esOf many (tp many))), some (.int (tot many (2 ^ many) : Nat)), d6, d7, d8, d9]) ?_ rfl
  rw [told_gb]
  refine (sSeq_nx (sAsg_nx (gN_of (gCons_of (gCall0_of (gCons_of (gVar_of rfl) gNil_of) (kinds_at h6)) (gCons_of gPure_of gNil_of)) rfl) rfl)).trans ?_
  show sSeq _ _ [some (urnD ds s), some (.int many), none, none, some (tbl (esOf many (tp many))), some (.int 0), none, none, none, none] = _
  refine (sSeq_nx (sSet_nx (g2_of (d := .int (tp many : Nat)) (g2_of (gVar_of rfl) (g2_of (gVar_of rfl) gPure_of rfl) (mulL (by omega))) gPure_of ?_))).trans ?_
  · rw [divI (by decide) (by decide), top_at h6]
  show sSeq _ _ [some (urnD ds s), some (.int many), some (.int (tp many : Nat)), none, some (tbl (esOf many (tp many))), some (.int 0), none, none, none, none] = _
  refine (sSeq_nx (sFor_nx (gSeq_of (gCall0_of (gCons_of (gVar_of rfl) gNil_of) (lots_at h6)) rfl) e1)).trans ?_
  refine sRet_of (g2_of (gVar_of rfl) (g2_of (gN_of (gCons_of gPure_of (gCons_of gPure_of (gCons_of gPure_of (gCons_of gPure_of (gCons_of gPure_of (gCons_of gPure_of gNil_of)))))) rfl) (gVar_of rfl) (six_at h1 h0)) ?_)
  rw [eqI, beq_self_eq_true]
/-! ### the law -/
def due6G : DSt → Option (D × DSt) := gLc [9] (gItems fRng1 (gCons (gPure (.int 16)) gNil)) (nName 9) (tB (g2 aIn (gN fTup (gCons (gVar 9) (gCons (gVar 3) gNil))) (gVar 4))) (gImm (gVar 9))
def T6 : D := tbl (esOf 6 (tp 6))
theorem due6_at {m : Nat} {u d0 d2 d5 d6 d7 d8 d9 : Option D} (h2 : m < 2 ^ 6) :
    due6G [d0, u, d2, some (lot m), some T6, d5, d6, d7, d8, d9] = some (.lst (nums (cnts 6 m)), [d0, u, d2, some (lot m), some T6, d5, d6, d7, d8, d9]) := by
  have e : lcL [9] (nName 9) (tB (g2 aIn (gN fTup (gCons (gVar 9) (gCons (gVar 3) gNil))) (gVar 4))) (gImm (gVar 9)) (nums (List.range (tp 6 + 1))) [d0, u, d2, some (lot m), some T6, d5, d6, d7, d8, none] = some (nums (cnts 6 m), [d0, u, d2, some (lot m), some T6, d5, d6, d7, d8, none]) := by
    rw [lcL_pure (isC 6 m) id, due_list]
    intro d hd
    obtain ⟨c, hc, rfl⟩ := List.mem_map.mp hd
    have hc' := List.mem_range.mp hc
    refine ⟨[d0, u, d2, some (lot m), some T6, d5, d6, d7, d8, some (.int c)], rfl, ?_, fun _ => gImm_of (gVar_of rfl) rfl, rfl⟩
    exact tB_of (g2_of (gN_of (gCons_of (gVar_of rfl) (gCons_of (gVar_of rfl) gNil_of)) rfl) (gVar_of rfl) (tbl_at (by omega) h2 hc'))
  unfold due6G
  refine (gLc_of (gItems_of (gCons_of gPure_of gNil_of) (rng_nat (n := 16) (by omega))) e ?_).trans rfl
  unfold nums cnts
  rw [List.length_map]
  have := List.length_filter_le (goes 6 m) (List.range (tp 6 + 1))
  rw [List.length_range] at this
  have := tp_le (many := 6) (by omega)
  omega
theorem counts6 {m : Nat} (h2 : m < 2 ^ 6) : S_counts_for [.int 6, lot m] = some (.val (.tup (nums (cnts 6 m))), [.int 6, lot m]) := counts_for_at (many := 6) (Nat.le_refl 6) h2
theorem lcounts6 {m : Nat} (h2 : m < 2 ^ 6) : S__law_counts [.int 6, lot m] = some (.val (.lst (nums (cnts 6 m))), [.int 6, lot m]) := law_counts_at (many := 6) (Nat.le_refl 6) h2
theorem kinds6 : S__law_kinds [.int 6] = some (.val T6, [.int 6]) := kinds_at (many := 6) (Nat.le_refl 6)
theorem lots6 : S__law_lots [.int 6] = some (.val (.lst ((List.range (2 ^ 6)).map lot)), [.int 6]) := lots_at (many := 6) (Nat.le_refl 6)
theorem perm10 (a b : D) : perm [1, 0] ([] ++ [a, b]) = [b, a] := rfl
def six1 : DSt → Option Out := (sSeq (sSet 7 (gCallK S_counts_for [1, 0] gNil (gCons (gVar 3) (gCons (gPure (.int 6)) gNil))))
    (sSeq (sSet 8 due6G)
    (sSeq (sIf (tOr (tB (g2 fNe (gN fRepr (gCons (gVar 7) gNil)) (gN fRepr (gCons (gN fTuple (gCons (gVar 8) gNil)) gNil)))) (tB (g2 fNe (gVar 8) (gCall0 S__law_counts (gCons (gPure (.int 6)) (gCons (gVar 3) gNil)))))) (sRet (gPure (.bl false))) sNext)
    (sSet 5 (g2 aAdd (gVar 5) (gN aLen (gCons (gVar 7) gNil)))))))
def sixG : DSt → Option Out := (sIf (tOr (tTru (gVar 6)) (tB (g2 fEq (gCall1 S__law_take 1 (gCons (gPure (.int 5)) gNil)) (gPure (.int 0))))) six1 sNext)
theorem law_gb : gb_law = (sSeq (sSet 1 (gCall0 S__law_urn (gCons (gVar 0) gNil)))
    (sSeq (sFor (gSeq (gN fTup (gCons (gPure (.int 1)) (gCons (gPure (.int 2)) (gCons (gPure (.int 3)) (gCons (gPure (.int 4)) (gCons (gPure (.int 5)) gNil))))))) (nName 2) (sIf (tNot (tTru (gCall1 S__law_is_told 1 (gCons (gVar 2) gNil)))) (sRet (gPure (.bl false))) sNext))
    (sSeq (sAsg (gN fTup (gCons (gCall0 S__law_kinds (gCons (gPure (.int 6)) gNil)) (gCons (gPure (.int 0)) (gCons (g2 fEq (gCall1 S__law_take 1 (gCons (gPure (.int 4)) gNil)) (gPure (.int 0))) gNil)))) (nTup 3 (nCons (nName 4) (nCons (nName 5) (nCons (nName 6) nNil)))))
    (sSeq (sFor (gSeq (gCall0 S__law_lots (gCons (gPure (.int 6)) gNil))) (nName 3) sixG)
    (sRet (gOrV (g1 fNot (gVar 6)) (g2 fEq (gVar 5) (gPure (.int 412))))))))) := rfl
theorem six1_at {m t : Nat} {d0 u d2 d6 d7 d8 d9 : Option D} (h2 : m < 2 ^ 6) :
    ∃ d7' d8', six1 [d0, u, d2, some (lot m), some T6, some (.int t), d6, d7, d8, d9] = some (.nx [d0, u, d2, some (lot m), some T6, some (.int ((t + (cnts 6 m).length : Nat) : Int)), d6, d7', d8', d9]) := by
  have h1 : 6 ≤ 6 := Nat.le_refl 6
  obtain ⟨z, z1, z2⟩ := rep_cnts h1 h2
  refine ⟨some (.tup (nums (cnts 6 m))), some (.lst (nums (cnts 6 m))), ?_⟩
  unfold six1
  refine (sSeq_nx (sSet_nx (gCallK_of (fs := []) gNil_of (gCons_of (gVar_of rfl) (gCons_of gPure_of gNil_of)) (by rw [perm10]; exact counts6 h2)))).trans ?_
  show sSeq _ _ [d0, u, d2, some (lot m), some T6, some (.int t), d6, some (.tup (nums (cnts 6 m))), d8, d9] = _
  refine (sSeq_nx (sSet_nx (due6_at h2))).trans ?_
  show sSeq _ _ [d0, u, d2, some (lot m), some T6, some (.int t), d6, some (.tup (nums (cnts 6 m))), some (.lst (nums (cnts 6 m))), d9] = _
  refine (sSeq_nx (s1 := [d0, u, d2, some (lot m), some T6, some (.int t), d6, some (.tup (nums (cnts 6 m))), some (.lst (nums (cnts 6 m))), d9]) ?_).trans ?_
  · refine (sIf_f ((tOr_f (tB_of (g2_of (gN_of (gCons_of (gVar_of rfl) gNil_of) z1) (gN_of (gCons_of (gN_of (gCons_of (gVar_of rfl) gNil_of) (tuple_at h1 h2)) gNil_of) z1) z2))).trans (tB_of (g2_of (gVar_of rfl) (gCall0_of (gCons_of gPure_of (gCons_of (gVar_of rfl) gNil_of)) (lcounts6 h2)) (ne_at h1 h2))))).trans ?_
    rfl
  · refine (sSet_nx (g2_of (gVar_of rfl) (gN_of (gCons_of (gVar_of rfl) gNil_of) rfl) addI)).trans ?_
    have el : (t : Int) + ((nums (cnts 6 m)).length : Nat) = ((t + (cnts 6 m).length : Nat) : Int) := by
      unfold nums
      rw [List.length_map]
      rfl
    rw [el]
    rfl
theorem law_true : ∀ ns : List Int, ns.length ≤ 63 → ∃ ds', S_law [.frl (ns.map .int)] = some (.val (.bl true), ds') := by
  intro ns hn
  obtain ⟨ds0, s0, u0, e0⟩ := urn30 hn
  let d0 : Option D := some (.frl (ns.map .int))
  obtain ⟨st1, e1, ds1, s1, o1, u1, rfl⟩ := loop_to (gt := nName 2) (gb := sIf (tNot (tTru (gCall1 S__law_is_told 1 (gCons (gVar 2) gNil)))) (sRet (gPure (.bl false))) sNext) (fun j st => ∃ ds' s' o, UrnOk ds' s' ∧ st = [d0, some (urnD ds' s'), o, none, none, none, none, none, none, none])
    (ds := [.int (1 : Nat), .int (2 : Nat), .int (3 : Nat), .int (4 : Nat), .int (5 : Nat)]) (k := 0) (st := [d0, some (urnD ds0 s0), none, none, none, none, none, none, none, none]) (fun j d st hd r => by
      obtain ⟨ds', s', o, u', rfl⟩ := r
      have hj : ∃ many : Nat, d = .int many ∧ 1 ≤ many ∧ many ≤ 5 := by
        rcases j with _ | _ | _ | _ | _ | j
        · exact ⟨1, (Option.some.inj hd).symm, by omega, by omega⟩
        · exact ⟨2, (Option.some.inj hd).symm, by omega, by omega⟩
        · exact ⟨3, (Option.some.inj hd).symm, by omega, by omega⟩
        · exact ⟨4, (Option.some.inj hd).symm, by omega, by omega⟩
        · exact ⟨5, (Option.some.inj hd).symm, by omega, by omega⟩
        · exact absurd hd (by simp)
      obtain ⟨many, rfl, k1, k2⟩ := hj
      obtain ⟨ds2, s2, u2, e⟩ := told_at k1 k2 u'
      refine ⟨_, _, rfl, ?_, ds2, s2, some (.int many), u2, rfl⟩
      refine (sIf_f (tNot_of (tTru_of (gCall1_of (gVar_of rfl) (gCons_of (gVar_of rfl) gNil_of) rfl e) rfl))).trans ?_
      rfl) ⟨ds0, s0, none, u0, rfl⟩
  obtain ⟨ds2, s2, c, u2, hc, e2⟩ := take30 (m := 4) (by omega) u1
  obtain ⟨b, hb⟩ : ∃ b : Bool, b = ((c : Int) == 0) := ⟨_, rfl⟩
  obtain ⟨st3, e3, ds3, s3, t, o3, d7, d8, u3, ht, rfl⟩ := loop_to (gt := nName 3) (gb := sixG) (fun j st => ∃ ds' s' t o d7 d8, UrnOk ds' s' ∧ (b = true → t = tot 6 j) ∧ st = [d0, some (urnD ds' s'), o1, o, some T6, some (.int (t : Nat)), some (.bl b), d7, d8, none])
    (ds := (List.range (2 ^ 6)).map lot) (k := 0) (st := [d0, some (urnD ds2 s2), o1, none, some T6, some (.int (0 : Nat)), some (.bl b), none, none, none]) (fun j d st hd r => by
      rw [Nat.zero_add] at r ⊢
      obtain ⟨ds', s', t, o, d7, d8, u', ht, rfl⟩ := r
      obtain ⟨rfl, hj⟩ := lot_get hd
      cases b with
      | true =>
        obtain ⟨x, y, e⟩ := six1_at (t := t) (d0 := d0) (u := some (urnD ds' s')) (d2 := o1) (d6 := some (.bl true)) (d7 := d7) (d8 := d8) (d9 := none) hj
        refine ⟨_, _, rfl, (sIf_t (tOr_t (tTru_of (gVar_of rfl) rfl))).trans e, ds', s', _, some (lot j), x, y, u', fun _ => ?_, rfl⟩
        rw [tot_succ, ht rfl]
      | false =>
        obtain ⟨ds2, s2, c, u2, hc, e2⟩ := take30 (m := 5) (by omega) u'
        have eq : tOr (tTru (gVar 6)) (tB (g2 fEq (gCall1 S__law_take 1 (gCons (gPure (.int 5)) gNil)) (gPure (.int 0)))) [d0, some (urnD ds' s'), o1, some (lot j), some T6, some (.int (t : Nat)), some (.bl false), d7, d8, none] = some (((c : Int) == 0), [d0, some (urnD ds2 s2), o1, some (lot j), some T6, some (.int (t : Nat)), some (.bl false), d7, d8, none]) :=
          (tOr_f (tTru_of (gVar_of rfl) rfl)).trans (tB_of (g2_of (gCall1_of (gVar_of rfl) (gCons_of gPure_of gNil_of) rfl e2) gPure_of (eqI _ _)))
        cases hz : ((c : Int) == 0) with
        | true =>
          rw [hz] at eq
          obtain ⟨x, y, e⟩ := six1_at (t := t) (d0 := d0) (u := some (urnD ds2 s2)) (d2 := o1) (d6 := some (.bl false)) (d7 := d7) (d8 := d8) (d9 := none) hj
          exact ⟨_, _, rfl, (sIf_t eq).trans e, ds2, s2, _, some (lot j), x, y, u2, (fun q => by cases q), rfl⟩
        | false =>
          rw [hz] at eq
          exact ⟨_, _, rfl, (sIf_f eq).trans rfl, ds2, s2, t, some (lot j), d7, d8, u2, (fun q => by cases q), rfl⟩) ⟨ds2, s2, 0, none, none, none, u2, fun _ => rfl, rfl⟩
  rw [Nat.zero_add, List.length_map, List.length_range] at ht
  refine ⟨[.frl (ns.map .int)], ?_⟩
  unfold S_law
  refine semB_val (s1 := [d0, none, none, none, none, none, none, none, none, none]) rfl rfl (st := [d0, some (urnD ds3 s3), o1, o3, some T6, some (.int (t : Nat)), some (.bl b), d7, d8, none]) ?_ rfl
  rw [law_gb]
  refine (sSeq_nx (sSet_nx (gCall0_of (gCons_of (gVar_of rfl) gNil_of) e0))).trans ?_
  refine (sSeq_nx (sFor_nx (gSeq_of (gN_of (gCons_of gPure_of (gCons_of gPure_of (gCons_of gPure_of (gCons_of gPure_of (gCons_of gPure_of gNil_of))))) rfl) rfl) e1)).trans ?_
  refine (sSeq_nx (sAsg_nx (gN_of (gCons_of (gCall0_of (gCons_of gPure_of gNil_of) kinds6) (gCons_of gPure_of (gCons_of (g2_of (gCall1_of (gVar_of rfl) (gCons_of gPure_of gNil_of) rfl e2) gPure_of (eqI _ _)) gNil_of))) rfl) rfl)).trans ?_
  rw [← hb]
  refine (sSeq_nx (sFor_nx (gSeq_of (gCall0_of (gCons_of gPure_of gNil_of) lots6) rfl) e3)).trans ?_
  cases b with
  | true =>
    rw [ht rfl]
    refine sRet_of (d := .bl true) ?_
    refine (gOrV_f (g1_of (f := fNot) (a := .bl true) (gVar_of rfl) rfl)).trans ?_
    refine g2_of (gVar_of rfl) gPure_of ?_
    rw [eqI, show (2 : Nat) ^ 6 = 64 from rfl, tot6]
    rfl
  | false =>
    refine sRet_of (d := .bl true) ?_
    refine gOrV_t ?_
    exact g1_of (f := fNot) (a := .bl false) (gVar_of rfl) rfl
end K30

open PySem PySem.W PyProof.Rows in
set_option maxRecDepth 100000 in
set_option maxHeartbeats 0 in
theorem PySem.Challenge.cw_liftedties_k30_whole_kinds_that_have_web_holds : PySem.Challenge.rw_liftedties_k30_whole_kinds_that_have_web.Holds := by
  w_on; o_law; k_head; (case hw => w_witness2)
  k_fill
  refine VL.walk_G (l := PySem.Challenge.rw_liftedties_k30_whole_kinds_that_have_web) (n := 63) (k := 5) (x := "script") (S := K30.S_law) rfl (by decide) rfl (VL.callerG ⟨rfl, by decide, by decide⟩) (fun w h Y => PySem.W.kIn_of Y) ?F K30.law_true
  case F =>
    intro w mg fa h KX G hmg
    refine' K30.all_mk KX G hmg ?a0 ?l0 ?c0 ?k0 ?a1 ?l1 ?c1 ?k1 ?a2 ?l2 ?c2 ?k2 ?a3 ?l3 ?c3 ?k3 ?a4 ?l4 ?c4 ?k4 ?a5 ?l5 ?c5 ?k5 ?a6 ?l6 ?c6 ?k6 ?a7 ?l7 ?c7 ?k7 ?a8 ?l8 ?c8 ?k8 ?a9 ?l9 ?c9 ?k9 ?a10 ?l10 ?c10 ?k10 ?a11 ?l11 ?c11 ?k11 ?z_len ?z_abs ?z_int ?z_range ?z_tuple ?z_sorted ?z_list ?z_dict ?z_repr
    (case a0 => k_is)
    (case l0 => k_is)
    (case c0 => k_is)
    (case k0 => k_is)
    (case a1 => k_is)
    (case l1 => k_is)
    (case c1 => k_is)
    (case k1 => k_is)
    (case a2 => k_is)
    (case l2 => k_is)
    (case c2 => k_is)
    (case k2 => k_is)
    (case a3 => k_is)
    (case l3 => k_is)
    (case c3 => k_is)
    (case k3 => k_is)
    (case a4 => k_is)
    (case l4 => k_is)
    (case c4 => k_is)
    (case k4 => k_is)
    (case a5 => k_is)
    (case l5 => k_is)
    (case c5 => k_is)
    (case k5 => k_is)
    (case a6 => k_is)
    (case l6 => k_is)
    (case c6 => k_is)
    (case k6 => k_is)
    (case a7 => k_is)
    (case l7 => k_is)
    (case c7 => k_is)
    (case k7 => k_is)
    (case a8 => k_is)
    (case l8 => k_is)
    (case c8 => k_is)
    (case k8 => k_is)
    (case a9 => k_is)
    (case l9 => k_is)
    (case c9 => k_is)
    (case k9 => k_is)
    (case a10 => k_is)
    (case l10 => k_is)
    (case c10 => k_is)
    (case k10 => k_is)
    (case a11 => k_is)
    (case l11 => k_is)
    (case c11 => k_is)
    (case k11 => k_is)
    (case z_len => k_is)
    (case z_abs => k_is)
    (case z_int => k_is)
    (case z_range => k_is)
    (case z_tuple => k_is)
    (case z_sorted => k_is)
    (case z_list => k_is)
    (case z_dict => k_is)
    (case z_repr => k_is)
