import PyProof.Rows.All
import Wide.All
import OpenK.AllK
import Wide.FinOn
import Lean
import PySem.Challenge.RW_k17_0038
open PySem PySem.W PyProof.Rows
set_option Elab.async false
namespace Mine
set_option maxRecDepth 100000 in
set_option maxHeartbeats 8000000 in
open_top hd for PySem.Challenge.rw_k17_0038
end Mine
open PySem.Calls
namespace Mine
section
open PySem PySem.W PyProof.Rows PySem.Calls

/-! plain facts -/
inductive Kd where
  | keep
  | del
  | add
def Kd.s : Kd → PySem.Str
  | .keep => PySem.Str.ofString "keep"
  | .del => PySem.Str.ofString "del"
  | .add => PySem.Str.ofString "add"

def src : List (Kd × PySem.Str) → List PySem.Str
  | [] => []
  | (.add, _) :: r => src r
  | (.keep, l) :: r => l :: src r
  | (.del, l) :: r => l :: src r

theorem src_append (x y : List (Kd × PySem.Str)) : src (x ++ y) = src x ++ src y := by
  induction x with
  | nil => rfl
  | cons d r ih =>
    obtain ⟨k, l⟩ := d
    cases k <;> simp [src, ih]
theorem src_add (l : List PySem.Str) : src (l.map fun x => (Kd.add, x)) = [] := by
  induction l with
  | nil => rfl
  | cons d r ih => simpa [src] using ih
theorem src_del (l : List PySem.Str) : src (l.map fun x => (Kd.del, x)) = l := by
  induction l with
  | nil => rfl
  | cons d r ih => simpa [src] using ih
theorem src_keep (l : List PySem.Str) : src (l.map fun x => (Kd.keep, x)) = l := by
  induction l with
  | nil => rfl
  | cons d r ih => simpa [src] using ih

def Chain : Int → List (Int × Int) → Int → Prop
  | i, [], n => i ≤ n
  | i, (p, _) :: r, n => i ≤ p ∧ Chain (p + 1) r n
def nxt : Int → List (Int × Int) → Int
  | i, [] => i
  | _, (p, _) :: r => nxt (p + 1) r

theorem Chain.snoc {p q : Int} : ∀ {ps : List (Int × Int)} {i k : Int}, Chain i ps k → k ≤ p → Chain i (ps ++ [(p, q)]) (p + 1)
  | [], _, _, h, hp => ⟨Int.le_trans h hp, Int.le_refl _⟩
  | (_, _) :: _, _, _, h, hp => ⟨h.1, Chain.snoc h.2 hp⟩
theorem Chain.up : ∀ {ps : List (Int × Int)} {i k k' : Int}, Chain i ps k → k ≤ k' → Chain i ps k'
  | [], _, _, _, h, hp => Int.le_trans h hp
  | (_, _) :: _, _, _, _, h, hp => ⟨h.1, Chain.up h.2 hp⟩
theorem Chain.at {p q n : Int} {post : List (Int × Int)} : ∀ {pre : List (Int × Int)} {i : Int}, Chain i (pre ++ (p, q) :: post) n → nxt i pre ≤ p ∧ i ≤ nxt i pre
  | [], _, h => ⟨h.1, Int.le_refl _⟩
  | (a, _) :: r, i, h => by
    have h2 := Chain.at (pre := r) h.2
    have h1 := h.1
    simp only [nxt]
    omega
theorem nxt_snoc {p q : Int} : ∀ (pre : List (Int × Int)) (i : Int), nxt i (pre ++ [(p, q)]) = p + 1
  | [], _ => rfl
  | (a, _) :: r, _ => nxt_snoc r (a + 1)

/-- a cut, as the slice rule has it -/
def pk {α : Type} (l : List α) (lo hi : Option Int) : List α := (l.drop (kms_lo lo l.length)).take (kms_hi hi l.length - kms_lo lo l.length)
theorem pk_run {α : Type} (l : List α) {i p : Int} (hi : 0 ≤ i) (hp : i ≤ p) : pk l (some i) (some p) = (l.drop i.toNat).take (p.toNat - i.toNat) := by
  unfold pk kms_lo kms_hi
  simp only [if_neg (show ¬ (i < 0) by omega), if_neg (show ¬ (p < 0) by omega)]
  by_cases h : i.toNat ≤ l.length
  · rw [Nat.min_eq_left h]
    by_cases h2 : p.toNat ≤ l.length
    · rw [Nat.min_eq_left h2]
    · rw [Nat.min_eq_right (by omega), List.take_of_length_le (by rw [List.length_drop]; omega), List.take_of_length_le (by rw [List.length_drop]; omega)]
  · rw [Nat.min_eq_right (show l.length ≤ i.toNat by omega), List.drop_of_length_le (Nat.le_refl _), List.drop_of_length_le (by omega)]
    simp
theorem take_run {α : Type} (l : List α) {a b : Nat} (h : a ≤ b) : l.take a ++ (l.drop a).take (b - a) = l.take b := by
  have e : b = a + (b - a) := by omega
  conv => rhs; rw [e]
  rw [List.take_add]
theorem step_src {la : List PySem.Str} {ds : List (Kd × PySem.Str)} {i p : Int} {x : List PySem.Str} (h0 : 0 ≤ i) (hp : i ≤ p) (hs : src ds = la.take i.toNat) :
    src (((ds ++ (pk la (some i) (some p)).map fun x => (Kd.del, x)) ++ x.map fun x => (Kd.add, x)) ++ (pk la (some p) (some (p + 1))).map fun x => (Kd.keep, x)) = la.take (p + 1).toNat := by
  rw [src_append, src_append, src_append, src_del, src_add, src_keep, hs, List.append_nil, pk_run la h0 hp, pk_run la (by omega) (by omega), take_run la (by omega), take_run la (by omega)]

/-- the source part of a patch: what a raise says, what the end says -/
theorem src_snoc_add {ds : List (Kd × PySem.Str)} {l : PySem.Str} : src (ds ++ [(.add, l)]) = src ds := by rw [src_append]; simp [src]
theorem src_snoc_keep {ds : List (Kd × PySem.Str)} {l : PySem.Str} : src (ds ++ [(.keep, l)]) = src ds ++ [l] := by rw [src_append]; rfl
theorem src_snoc_del {ds : List (Kd × PySem.Str)} {l : PySem.Str} : src (ds ++ [(.del, l)]) = src ds ++ [l] := by rw [src_append]; rfl

theorem pre_more {lo : List PySem.Str} {xs : List PySem.Str} {l : PySem.Str} (h : lo.take xs.length = xs) (hg : lo[xs.length]? = some l) : lo.take (xs ++ [l]).length = xs ++ [l] := by
  rw [List.length_append, List.length_singleton, List.take_add_one, h, hg]; rfl
theorem pre_all {lo la : List PySem.Str} (h : lo.take la.length = la) (hl : la.length = lo.length) : lo = la := by
  rw [hl, List.take_length] at h; exact h
theorem raise_ne {lo la xs post : List PySem.Str} {l : PySem.Str} (hs : la = xs ++ l :: post) (h : lo.length ≤ xs.length ∨ lo[xs.length]? ≠ some l) : lo ≠ la := by
  rintro rfl
  rcases h with h | h
  · rw [hs, List.length_append, List.length_cons] at h; omega
  · apply h; rw [hs, List.getElem?_append_right (Nat.le_refl _), Nat.sub_self]; rfl
theorem src_split {pre post : List (Kd × PySem.Str)} {k : Kd} {l : PySem.Str} (hk : k ≠ .add) : src (pre ++ (k, l) :: post) = src pre ++ l :: src post := by
  rw [src_append]
  cases k with
  | add => exact absurd rfl hk
  | keep => rfl
  | del => rfl

/-! strs of a list -/
theorem strs_pk {va : List Value} {la : List PySem.Str} (h : StrsAre va la) (lo hi : Option Int) : StrsAre (kms_pick va lo hi) (pk la lo hi) := by
  unfold kms_pick pk
  rw [h.length]
  exact (h.drop' _).take' _
theorem pk_le {α : Type} (l : List α) (lo hi : Option Int) : (pk l lo hi).length ≤ l.length := by
  unfold pk; rw [List.length_take, List.length_drop]; omega

def OkL (ns : List PySem.Str) : Prop := ∀ x ∈ ns, PyData.strOk x = true
theorem str_canLayAll0 : ∀ ns : List PySem.Str, OkL ns → PyData.canLayAll0 (ns.map PyData.str) = true
  | [], _ => rfl
  | x :: r, h => by simp [PyData.canLayAll0, PyData.canLay0, str_canLayAll0 r fun y hy => h y (.tail _ hy), h x (.head _)]
theorem str_depthAll : ∀ ns : List PySem.Str, PyData.depthAll (ns.map PyData.str) = 0
  | [] => rfl
  | _ :: r => by simp [PyData.depthAll, PyData.depth, str_depthAll r]
theorem str_shaped (ns : List PySem.Str) (h : OkL ns) : SeqAt.shaped (.list (ns.map PyData.str)) = true := by
  simp [SeqAt.shaped, PyData.canLay0, PyData.depth, str_canLayAll0 ns h, str_depthAll]
theorem str_sameAll : ∀ ns ms : List PySem.Str, PySem.Spec.sameAll (ns.map PyData.str) (ms.map PyData.str) = decide (ns = ms)
  | [], [] => by simp [PySem.Spec.sameAll]
  | [], _ :: _ => by simp [PySem.Spec.sameAll]
  | _ :: _, [] => by simp [PySem.Spec.sameAll]
  | a :: r, b :: t => by
    simp only [List.map_cons, PySem.Spec.sameAll, PySem.Spec.same, str_sameAll r t]
    by_cases h : a = b <;> by_cases h' : r = t <;> simp [h, h']
theorem str_same (ns ms : List PySem.Str) : PySem.Spec.same (.list (ns.map PyData.str)) (.list (ms.map PyData.str)) = decide (ns = ms) := by
  simp only [PySem.Spec.same]; exact str_sameAll ns ms
section
variable {prog : Program} {w : World} {A : Around} {E : Value → Shared → Prop} {s : Shared} {a b : Addr} {xs ys : List Value} {ns ms : List PySem.Str} {Q : Value → Shared → Prop}
theorem ne_strs (ha : s.heap.IsList a xs.toArray) (hb : s.heap.IsList b ys.toArray) (hi : StrsAre xs ns) (hj : StrsAre ys ms) (o1 : OkL ns) (o2 : OkL ms) (hu : A.units + 64 < cLine) (h : Q (.bool (!decide (ns = ms))) s) :
    wpAny (model prog w) A (compareOp .NotEq (.ref a) (.ref b)) Q E s :=
  ne_dataH_same (reads_newData ha hi.carried) (reads_newData hb hj.carried) (str_shaped _ o1) (str_shaped _ o2) hu (SeqAt.noMix_of_shape (.list .str) rfl _ _ (list_map_has fun _ => rfl) (list_map_has fun _ => rfl)) (by rw [str_same]; exact h)
end

end
end Mine
namespace Mine
section
open PySem PySem.W PyProof.Rows PySem.Calls PySem.Spec PyProof.V

/-! one entry of a ledger turned, wherever it stands -/
def updL (D : Addr) (o : Obj) (l : List (Addr × Obj)) : List (Addr × Obj) := l.map fun p => if p.1 = D then (D, o) else p
theorem mem_updL {D : Addr} {o : Obj} {l : List (Addr × Obj)} {p : Addr × Obj} (h : p ∈ l) (hne : p.1 ≠ D) : p ∈ updL D o l :=
  List.mem_map.mpr ⟨p, h, by rw [if_neg hne]⟩
theorem mem_updL_self {D : Addr} {o o₀ : Obj} {l : List (Addr × Obj)} (h : (D, o₀) ∈ l) : (D, o) ∈ updL D o l :=
  List.mem_map.mpr ⟨_, h, by simp⟩
theorem updL_fst {D : Addr} {o : Obj} {l : List (Addr × Obj)} : (updL D o l).map (·.1) = l.map (·.1) := by
  unfold updL
  rw [List.map_map]
  refine List.map_congr_left fun p _ => ?_
  simp only [Function.comp]
  split
  · rename_i h; exact h.symm
  · rfl
theorem news_updL {h₀ h : Heap} {L D : Addr} {m : Str → Option Value} {news : List (Addr × Obj)} {o o' : Obj} {f : Obj → Obj} (F : Fr h₀ L h m) (N : News h₀ L h news)
    (hm : (D, o) ∈ news) (e : f o = o') (hf : o'.isFreed = false) : Fr h₀ L (h.update D f) m ∧ News h₀ L (h.update D f) (updL D o' news) := by
  have HD := N (D, o) hm
  obtain ⟨oL, es, ep, hL, r⟩ := F.ns
  refine ⟨⟨⟨oL, es, ep, (Heap.get?_update_ne _ _ _ _ (Ne.symm HD.2.1)).trans hL, r⟩, fun b x q => (Heap.get?_update_ne _ _ _ _ fun z => ?_).trans (F.keep b x q), F.above⟩, fun p hp => ?_⟩
  · have := HD.2.2; rw [← z, q] at this; cases this
  · obtain ⟨q, hq, rfl⟩ := List.mem_map.mp hp
    by_cases hd : q.1 = D
    · rw [if_pos hd]
      exact ⟨e ▸ Heap.get?_update_self _ HD.1 (e ▸ hf), HD.2⟩
    · rw [if_neg hd]
      have P := N q hq
      exact ⟨(Heap.get?_update_ne _ _ _ _ hd).trans P.1, P.2⟩
theorem news_one {h₀ h : Heap} {L D : Addr} {news : List (Addr × Obj)} {o o' : Obj} (N : News h₀ L h news) (h1 : (D, o) ∈ news) (h2 : (D, o') ∈ news) : o = o' := by
  have e1 := (N _ h1).1
  have e2 := (N _ h2).1
  simp only at e1 e2
  rw [e1] at e2
  exact Option.some.inj e2

section
variable {prog : Program} {w : World} {A : Around} {E : Value → Shared → Prop} {s : Shared} {env : Env} {h₀ : Heap} {x : Str} {body : List Stmt} {Q : Flow → Shared → Prop}

/-- for x in range(a, b, -1), a word over the ledger -/
theorem down_loop {r : Addr} {a₀ b₀ : Int} {t₀ u₀ v₀ : Tok} {n : Nat} {m₀ : Str → Option Value} {news : List (Addr × Obj)} (stored : List Str) (P : List (Addr × Obj) → Prop)
    (hh : A.handled = none) (hr : IsRange s.heap r a₀ b₀ (-1) t₀ u₀ v₀) (hsmall : Builtin.Range.small a₀ b₀ (-1) = true) (hn : Builtin.Range.rangeSize a₀ b₀ (-1) = (n : Int)) (F : Fr h₀ env.locals s.heap m₀) (N : News h₀ env.locals s.heap news) (hp : P news)
    (turn : ∀ (k : Int) t (u : Str → Option Value) nx h tk own, a₀ - n < k → k ≤ a₀ → OwnOff own (nx.map (·.1)) → P nx →
      Fr h₀ env.locals h (fun y => if y = x then some (.int k t) else if stored.contains y then u y else m₀ y) → News h₀ env.locals h (nx ++ own) →
      wpAny (model prog w) A (execs body env) (InvPostG h₀ env.locals (fun m nx => (∀ z, z ≠ x → stored.contains z = false → m z = m₀ z) ∧ P nx) own { s with heap := h, toks := tk } Q) E { s with heap := h, toks := tk })
    (done : ∀ (u : Str → Option Value) nx h tk, P nx → Fr h₀ env.locals h (fun y => if y = x then u y else if stored.contains y then u y else m₀ y) → News h₀ env.locals h nx → Q .next { s with heap := h, toks := tk }) :
    wpAny (model prog w) A (pyIter (.ref r)) (fun it s₂ => LoopAtV prog w A h₀ env x body Q E it s₂) E s := by
  refine wpAny_pyIter_range hr hsmall ?_
  have W : Walks prog w A s.heap.objs.size [s.heap.objs.size] [s.heap.objs.size] n (fun i v => i < n ∧ ∃ t, v = .int (a₀ + i * (-1)) t)
      (fun i h => IsRangeIter h s.heap.objs.size (a₀ + (i : Nat) * (-1)) ((n : Int) - (i : Nat)) (-1)) := (Walks.range hh _ a₀ (-1) n).bound
  refine kdr_loop (fun _ m nx => (∀ z, z ≠ x → stored.contains z = false → m z = m₀ z) ∧ P nx) W (fun _ h => h) (fun _ h => h) ?_ ?_ ?_ ?_ (by show IsRangeIter _ _ _ _ _; rw [hn]; simpa using Heap.get?_push_size _ rfl) (F.push _) (fun p hp => ⟨Heap.get?_push_of_some _ (N p hp).1, (N p hp).2⟩) ⟨fun _ _ _ => rfl, hp⟩ ?_ ?_
  · intro i h hi b hb
    rw [List.mem_singleton.mp hb]
    exact ⟨_, hi⟩
  · intro hm
    exact absurd F.ns.lt ((List.mem_singleton.mp hm) ▸ Nat.lt_irrefl _)
  · intro b hb
    rw [List.mem_singleton.mp hb]
    exact next_is_new F
  · intro p hp hI
    exact absurd (Heap.lt_size (N p hp).1) ((List.mem_singleton.mp hI) ▸ Nat.lt_irrefl _)
  · rintro i v m₁ nx h tk own hi ⟨_, t, rfl⟩ hoff ⟨h2, hp'⟩ F₁ N₁
    have e1 : a₀ + (i : Int) * (-1) = a₀ - (i : Int) := by omega
    rw [e1] at F₁
    have em : (fun y => if y = x then some (Value.int (a₀ - (i : Int)) t) else if stored.contains y then m₁ y else m₀ y) = fun y => if y = x then some (Value.int (a₀ - (i : Int)) t) else m₁ y := by
      funext y
      by_cases hy : y = x
      · rw [if_pos hy, if_pos hy]
      · rw [if_neg hy, if_neg hy]
        cases h3 : stored.contains y with
        | true => simp
        | false => simp only [Bool.false_eq_true, if_false]; exact (h2 y hy h3).symm
    exact turn (a₀ - (i : Int)) t m₁ nx h tk own (by omega) (by omega) hoff hp' (by rw [em]; exact F₁) N₁
  · rintro m₁ nx h tk ⟨h2, hp'⟩ F₁ N₁
    refine done m₁ nx h tk hp' ?_ N₁
    have em : (fun y => if y = x then m₁ y else if stored.contains y then m₁ y else m₀ y) = m₁ := by
      funext y
      by_cases hy : y = x
      · rw [if_pos hy]
      · rw [if_neg hy]
        cases h3 : stored.contains y with
        | true => simp
        | false => simp only [Bool.false_eq_true, if_false]; exact (h2 y hy h3).symm
    rw [em]
    exact F₁
end

/-! the rows of the table -/
def RowsIn (nx : List (Addr × Obj)) (off : List Addr) (w : Nat) (refs : List Value) : Prop :=
  ∀ v ∈ refs, ∃ R vs ns k, v = Value.ref R ∧ (R, listOf (List.toArray vs) k) ∈ nx ∧ IntsAre vs ns ∧ ns.length = w ∧ R ∉ off
/-- T holds n rows of w ints, none of them in keepL -/
def Tab (nx keepL : List (Addr × Obj)) (T : Addr) (n w : Nat) : Prop :=
  (∀ p ∈ keepL, p ∈ nx) ∧ ∃ refs k, (T, listOf (List.toArray refs) k) ∈ nx ∧ refs.length = n ∧ RowsIn nx (T :: keepL.map (·.1)) w refs

theorem Tab.row {nx keepL : List (Addr × Obj)} {T : Addr} {n w : Nat} (h : Tab nx keepL T n w) {i : Int} (h0 : 0 ≤ i) (h1 : i < n) :
    ∃ refs k R vs ns k', (T, listOf (List.toArray refs) k) ∈ nx ∧ refs.length = n ∧ refs[i.toNat]? = some (Value.ref R) ∧ (R, listOf (List.toArray vs) k') ∈ nx ∧ IntsAre vs ns ∧ ns.length = w ∧ R ≠ T ∧ ∀ p ∈ keepL, p.1 ≠ R := by
  obtain ⟨_, refs, k, hT, hl, hr⟩ := h
  have hi : i.toNat < refs.length := by omega
  obtain ⟨R, vs, ns, k', e, hm, hi', hw, hoff⟩ := hr _ (List.getElem_mem hi)
  refine ⟨refs, k, R, vs, ns, k', hT, hl, by rw [List.getElem?_eq_getElem hi, e], hm, hi', hw, fun q => hoff (by rw [q]; exact .head _), fun p hp q => hoff (.tail _ (List.mem_map.mpr ⟨p, hp, q⟩))⟩
theorem Tab.set {nx keepL : List (Addr × Obj)} {T R : Addr} {n w : Nat} {vs vs' : List Value} {ns' : List Int} {k k' : Nat} (h : Tab nx keepL T n w) (hR : (R, listOf (List.toArray vs) k) ∈ nx)
    (hRT : R ≠ T) (hRk : ∀ p ∈ keepL, p.1 ≠ R) (hi : IntsAre vs' ns') (hw : ns'.length = w) : Tab (updL R (listOf (List.toArray vs') k') nx) keepL T n w := by
  obtain ⟨hk, refs, kk, hT, hl, hr⟩ := h
  refine ⟨fun p hp => mem_updL (hk p hp) (hRk p hp), refs, kk, mem_updL hT (Ne.symm hRT), hl, fun v hv => ?_⟩
  obtain ⟨R', us, ms, j, e, hm, hi', hw', hoff⟩ := hr v hv
  by_cases q : R' = R
  · subst q
    exact ⟨R', vs', ns', k', e, mem_updL_self hR, hi, hw, hoff⟩
  · exact ⟨R', us, ms, j, e, mem_updL hm q, hi', hw', hoff⟩

end
end Mine
namespace Mine
section
open PySem PySem.W PyProof.Rows PySem.Calls PySem.Spec PyProof.V
abbrev tupO (vs : List Value) (n : Nat) : Obj := { cls := .type "tuple", data := .seq vs.toArray n }

section
variable {prog : Program} {w : World} {A : Around} {E : Value → Shared → Prop} {s : Shared} {h₀ : Heap} {L D : Addr} {m : Str → Option Value} {news : List (Addr × Obj)} {vs : List Value} {n : Nat} {t u : Tok} {value slice : PySem.Expr}

theorem len_mem {Q : Value → Shared → Prop} {ls : List PySem.Str} (N : News h₀ L s.heap news) (hm : (D, listOf vs.toArray n) ∈ news) (hs : StrsAre vs ls) (hz : ls.length ≤ 1000000)
    (h : ∀ t k, Q (.int (ls.length : Int) t) { s with toks := k }) : wpAny (model prog w) A (call (.builtin "len") [.ref D]) Q E s := by
  have e : vs.toArray.size = ls.length := by rw [List.size_toArray, hs.length]
  exact len_list (News.isList N hm) (by rw [e]; omega) (by rw [e]; exact h _ _)

theorem str_mem {Q : Value → Shared → Prop} {ls : List PySem.Str} {i : Int} (N : News h₀ L s.heap news) (hm : (D, listOf vs.toArray n) ∈ news) (hs : StrsAre vs ls) (h0 : 0 ≤ i) (h1 : i < (ls.length : Int)) (hz : ls.length ≤ 1000000)
    (h : ∀ t', Q (.str (ls.getD i.toNat PySem.Str.empty) t') s)
    (hsb : subscripted slice false (.ref D) (.int i u) = operate [.ref D, .int i u] (getItem (.ref D) (.int i u)) := by with_unfolding_all rfl) :
    wpAny (model prog w) A (subscriptTail value slice (.ref D) (.int i u)) Q E s :=
  KTb.item_list (News.isList N hm) hs h0 h1 (by omega) (fun t' _ => h t') hsb

theorem row_mem {Q : Value → Shared → Prop} {nx keepL : List (Addr × Obj)} {T : Addr} {r c : Nat} {i : Int} (N : News h₀ L s.heap news) (ht : Tab nx keepL T r c) (hsub : ∀ p ∈ nx, p ∈ news) (h0 : 0 ≤ i) (h1 : i < (r : Int)) (hz : r ≤ 1000000)
    (h : ∀ R vs ns k, (R, listOf (List.toArray vs) k) ∈ nx → (R, listOf (List.toArray vs) k) ∈ news → IntsAre vs ns → ns.length = c → R ≠ T → (∀ p ∈ keepL, p.1 ≠ R) → Q (.ref R) s)
    (hsb : subscripted slice false (.ref T) (.int i u) = operate [.ref T, .int i u] (getItem (.ref T) (.int i u)) := by with_unfolding_all rfl) :
    wpAny (model prog w) A (subscriptTail value slice (.ref T) (.int i u)) Q E s := by
  obtain ⟨refs, k, R, us, ns, k', hT, hl, hg, hR, hi, hw, hRT, hoff⟩ := ht.row h0 h1
  exact tail_any (News.isList N (hsub _ hT)).typeIs slot_list_getitem.lookup (wpAny_getItem_list (News.isList N (hsub _ hT)) h0 (by omega) (x := .ref R) (by simpa using hg) (h R us ns k' hR (hsub _ hR) hi hw hRT hoff)) hsb

theorem set_mem {Q : Unit → Shared → Prop} {k : Int} {v : Value} (F : Fr h₀ L s.heap m) (N : News h₀ L s.heap news) (hm : (D, listOf vs.toArray n) ∈ news) (h0 : 0 ≤ k) (h1 : k < (vs.length : Int)) (hfit : k < 2 ^ 63)
    (h : ∀ h', Fr h₀ L h' m → News h₀ L h' (updL D (listOf (vs.set k.toNat v).toArray n) news) → Q () { s with heap := h' }) :
    wpAny (model prog w) A (setItem (.ref D) (.int k t) v) Q E s := by
  have z := N (D, listOf vs.toArray n) hm
  refine ki_setAt z.1 h0 hfit (by rw [List.size_toArray]; exact h1) ?_
  have e : Obj.mapSeq (·.setIfInBounds k.toNat v) (listOf vs.toArray n) = listOf (vs.set k.toNat v).toArray n := by
    show ({ cls := .type "list", data := .seq (vs.toArray.setIfInBounds k.toNat v) (if (vs.toArray.setIfInBounds k.toNat v).size == vs.toArray.size then n else n + 1) } : Obj) = _
    have e1 : vs.toArray.setIfInBounds k.toNat v = (vs.set k.toNat v).toArray := by
      apply Array.toList_inj.mp
      simp
    rw [if_pos (by simp), e1]
  obtain ⟨F', N'⟩ := news_updL F N hm e rfl
  exact h _ F' N'

theorem append_mem {Q : Value → Shared → Prop} {v : Value} (F : Fr h₀ L s.heap m) (N : News h₀ L s.heap news) (hm : (D, listOf vs.toArray n) ∈ news) (hz : vs.length ≤ 1000000)
    (h : ∀ h', Fr h₀ L h' m → News h₀ L h' (updL D (listOf (vs ++ [v]).toArray (n + 1)) news) → Q .none { s with heap := h' }) :
    wpAny (model prog w) A (call (.builtin "list.append") [.ref D, v]) Q E s := by
  have z := N (D, listOf vs.toArray n) hm
  refine append_at z.1 (fun h' hs hg => ?_) (by rw [List.size_toArray, sizeLine_eq]; omega)
  refine h h' (F.change hs z.2.1 z.2.2) fun p hp => ?_
  obtain ⟨q, hq, rfl⟩ := List.mem_map.mp hp
  by_cases hd : q.1 = D
  · rw [if_pos hd]
    exact ⟨hg.trans (by rw [List.push_toArray]), z.2⟩
  · rw [if_neg hd]
    have P := N q hq
    exact ⟨hs.extBut _ _ hd P.1, P.2⟩

/-- an item of a tuple on the ledger, at a written place -/
theorem tup_mem {Q : Value → Shared → Prop} {k : Int} {j : Nat} {x : Value} (N : News h₀ L s.heap news) (hm : (D, tupO vs n) ∈ news) (hlo : -(2 ^ 63) ≤ k) (hhi : k < 2 ^ 63) (hj : seqIndex? k vs.length = some j) (hx : vs[j]? = some x) (h : Q x s)
    (hsb : subscripted slice false (.ref D) (.int k u) = operate [.ref D, .int k u] (getItem (.ref D) (.int k u)) := by with_unfolding_all rfl) :
    wpAny (model prog w) A (subscriptTail value slice (.ref D) (.int k u)) Q E s := item_tupleT (News.isTup N hm) hlo hhi hj hx h hsb
end

end
end Mine
namespace Mine
section
open PySem PySem.W PyProof.Rows PySem.Calls PySem.Spec PyProof.V PyProof.Rows.LCg

theorem Tab.enter {nx keepL own : List (Addr × Obj)} {T : Addr} {n c : Nat} (hoff : OwnOff own (nx.map (·.1))) (h : Tab nx keepL T n c) : Tab (nx ++ own) (keepL ++ own) T n c := by
  obtain ⟨hk, refs, k, hT, hl, hr⟩ := h
  refine ⟨fun p hp => ?_, refs, k, List.mem_append_left _ hT, hl, fun v hv => ?_⟩
  · rcases List.mem_append.mp hp with q | q
    · exact List.mem_append_left _ (hk p q)
    · exact List.mem_append_right _ q
  · obtain ⟨R, vs, ns, k', e, hm, hi, hw, ho⟩ := hr v hv
    refine ⟨R, vs, ns, k', e, List.mem_append_left _ hm, hi, hw, fun q => ?_⟩
    rcases List.mem_cons.mp q with q | q
    · exact ho (by rw [q]; exact .head _)
    · rw [List.map_append] at q
      rcases List.mem_append.mp q with q | q
      · exact ho (.tail _ q)
      · obtain ⟨p, hp, e⟩ := List.mem_map.mp q
        exact hoff p hp R (List.mem_map.mpr ⟨_, hm, rfl⟩) e
theorem Tab.leave {nx nx' keepL own : List (Addr × Obj)} {T : Addr} {n c : Nat} (hoff : OwnOff own (nx.map (·.1))) (h0 : Tab nx keepL T n c) (h : Tab nx' (keepL ++ own) T n c) :
    ∃ nx'', (∀ p ∈ nx'', p ∈ nx') ∧ (∀ p ∈ own, p ∈ nx') ∧ OwnOff own (nx''.map (·.1)) ∧ Tab nx'' keepL T n c := by
  classical
  obtain ⟨hk0, _, _, hT0, _, _⟩ := h0
  obtain ⟨hk, refs, k, hT, hl, hr⟩ := h
  have keep : ∀ p ∈ nx', p.1 ∉ own.map (·.1) → p ∈ nx'.filter (fun p => decide (p.1 ∉ own.map (·.1))) := fun p hp hn => List.mem_filter.mpr ⟨hp, decide_eq_true hn⟩
  have noown : ∀ {a : Addr} {o : Obj}, (a, o) ∈ nx → a ∉ own.map (·.1) := fun {a o} hm q => by
    obtain ⟨p, hp, e⟩ := List.mem_map.mp q
    exact hoff p hp a (List.mem_map.mpr ⟨_, hm, rfl⟩) e
  refine ⟨nx'.filter (fun p => decide (p.1 ∉ own.map (·.1))), fun p hp => (List.mem_filter.mp hp).1, fun p hp => hk p (List.mem_append_right _ hp), ?_, fun p hp => keep p (hk p (List.mem_append_left _ hp)) (noown (a := p.1) (o := p.2) (hk0 p hp)), refs, k, keep _ hT (noown hT0), hl, fun v hv => ?_⟩
  · intro p hp b hb e
    obtain ⟨q, hq, rfl⟩ := List.mem_map.mp hb
    have := of_decide_eq_true (List.mem_filter.mp hq).2
    exact this (List.mem_map.mpr ⟨p, hp, e⟩)
  · obtain ⟨R, vs, ns, k', e, hm, hi, hw, ho⟩ := hr v hv
    rw [List.map_append] at ho
    refine ⟨R, vs, ns, k', e, keep _ hm fun q => ho (.tail _ (List.mem_append_right _ q)), hi, hw, fun q => ?_⟩
    rcases List.mem_cons.mp q with q | q
    · exact ho (by rw [q]; exact .head _)
    · exact ho (.tail _ (List.mem_append_left _ q))

theorem ints_length_set {vs : List Value} {ns : List Int} {j : Nat} {x : Int} {u : Tok} (h : IntsAre vs ns) : IntsAre (vs.set j (.int x u)) (ns.set j x) := ints_set h j

theorem updL_append {D : Addr} {o : Obj} {a b : List (Addr × Obj)} : updL D o (a ++ b) = updL D o a ++ updL D o b := List.map_append

/-- a turn that stored one int into a row ends -/
theorem end_set {h₀ : Heap} {L : Addr} {nx keepL own : List (Addr × Obj)} {T R : Addr} {n c : Nat} {vs : List Value} {ns : List Int} {k j : Nat} {x : Int} {u : Tok} {J : (Str → Option Value) → Prop} {m' : Str → Option Value} {s₁ : Shared} {h' : Heap} {tk : Nat}
    (F : Fr h₀ L h' m') (N : News h₀ L h' (updL R (listOf (vs.set j (.int x u)).toArray k) (nx ++ own))) (hoff : OwnOff own (nx.map (·.1))) (ht : Tab nx keepL T n c) (hR : (R, listOf vs.toArray k) ∈ nx) (hi : IntsAre vs ns) (hw : ns.length = c) (hRT : R ≠ T) (hRk : ∀ p ∈ keepL, p.1 ≠ R) (hj : J m') :
    InvEndG h₀ L (fun m nx => J m ∧ Tab nx keepL T n c) own s₁ { s₁ with heap := h', toks := tk } := by
  refine InvEndG.intro (nx := updL R (listOf (vs.set j (.int x u)).toArray k) nx) F N ⟨hj, ht.set hR hRT hRk (ints_length_set hi) (by rw [List.length_set]; exact hw)⟩ (by rw [updL_fst]; exact hoff) (fun p hp => ?_) fun p hp => ?_
  · rw [updL_append]; exact List.mem_append_left _ hp
  · exact mem_updL (List.mem_append_right _ hp) fun q => hoff p hp R (List.mem_map.mpr ⟨_, hR, rfl⟩) q

section
variable {prog : Program} {w : World} {A : Around} {h₀ : Heap} {L : Addr} {m : Str → Option Value} {env : Env} {elt : PySem.Expr} {x : Str} {scope : Scope} {cl : List (Str × Addr)} {s : Shared} {Fin : List Value → List (Addr × Obj) → Prop} {news : List (Addr × Obj)}
theorem comp_rows {n c : Nat} {a : Int}
    (turn : ∀ k t I oI C oC D m₂ ys nw h tk (E' : Value → Shared → Prop), (∀ p ∈ news, p ∈ nw) → NsObj oC m₂ → m₂ x = some (.int k t) → Fr h₀ L h m → News h₀ L h ((I, oI) :: (C, oC) :: (D, lst ys) :: nw) → Off3 I C D nw → ((@Ne Nat I C) ∧ (@Ne Nat I D) ∧ (@Ne Nat C D)) →
      wpAny (model prog w) A (eval elt (compEnvC scope cl C env)) (CompEnd h₀ L m { s with heap := h, toks := tk } I oI C oC D (lst ys) (fun _ => True) (fun y news' => ∃ R vs ns kk, y = .ref R ∧ news' = (R, listOf (List.toArray vs) kk) :: nw ∧ IntsAre vs ns ∧ ns.length = c ∧ ∀ p ∈ nw, p.1 ≠ R)) E' { s with heap := h, toks := tk })
    (fin : ∀ ys tl, ys.length = n → RowsIn (tl ++ news) (news.map (·.1)) c ys → Fin ys (tl ++ news)) :
    CompRest prog w A h₀ L m env elt x scope cl s (fun _ => True) (fun i v => ∃ t, v = .int (a + (i : Int)) t) Fin n 0 [] news := by
  have key : ∀ (j i : Nat) (ys : List Value) (tl : List (Addr × Obj)), i + j = n → ys.length = i → RowsIn (tl ++ news) (news.map (·.1)) c ys → CompRest prog w A h₀ L m env elt x scope cl s (fun _ => True) (fun i v => ∃ t, v = .int (a + (i : Int)) t) Fin j i ys (tl ++ news) := by
    intro j
    induction j with
    | zero =>
      intro i ys tl hi hy hr
      exact CompRest.zero (fin ys tl (by omega) hr)
    | succ j ih =>
      intro i ys tl hi hy hr
      refine CompRest.succ ?_
      rintro v I oI C oC D m₂ h tk E' ⟨t, rfl⟩ hC hx F N off ne
      refine wpAny_mono (turn _ t I oI C oC D m₂ ys (tl ++ news) h tk E' (fun p hp => List.mem_append_right _ hp) hC hx F N off ne) (fun y s₂ hq => ?_) fun _ _ e => e
      obtain ⟨h', tk', nw, e, F', N', off', hS, R, vs, ns, kk, rfl, rfl, hi', hw', hne⟩ := hq
      refine ⟨h', tk', _, e, F', N', off', hS, ?_⟩
      refine ih (i + 1) (ys ++ [.ref R]) ((R, listOf (List.toArray vs) kk) :: tl) (by omega) (by simp [hy]) fun u hu => ?_
      rcases List.mem_append.mp hu with q | q
      · obtain ⟨R', vs', ns', k', e', hm, hi'', hw'', ho⟩ := hr u q
        exact ⟨R', vs', ns', k', e', .tail _ hm, hi'', hw'', ho⟩
      · refine ⟨R, vs, ns, kk, List.mem_singleton.mp q, .head _, hi', hw', fun z => ?_⟩
        obtain ⟨p, hp, e'⟩ := List.mem_map.mp z
        exact hne p (List.mem_append_right _ hp) e'
  simpa using key n 0 [] [] (by omega) rfl (fun _ h => nomatch h)
theorem tab_made {D : Addr} {ys : List Value} {tl : List (Addr × Obj)} {n c : Nat} (hl : ys.length = n) (hr : RowsIn (tl ++ news) (news.map (·.1)) c ys) (hD : Off1 D (tl ++ news)) : Tab ((D, lst ys) :: (tl ++ news)) news D n c := by
  have off : ∀ {l : List (Addr × Obj)}, Off1 D l → ∀ p ∈ l, p.1 ≠ D := by
    intro l
    induction l with
    | nil => intro _ p hp; cases hp
    | cons q r ih =>
      intro h p hp
      rcases List.mem_cons.mp hp with rfl | hp
      · exact h.1
      · exact ih h.2 p hp
  refine ⟨fun p hp => .tail _ (List.mem_append_right _ hp), ys, ys.length, .head _, hl, fun v hv => ?_⟩
  obtain ⟨R, vs, ns, k', e, hm, hi, hw, ho⟩ := hr v hv
  refine ⟨R, vs, ns, k', e, .tail _ hm, hi, hw, fun q => ?_⟩
  rcases List.mem_cons.mp q with q | q
  · exact off hD _ hm q
  · exact ho q
end

end
end Mine
namespace Mine
section
open PySem PySem.W PyProof.Rows PySem.Calls PySem.Spec PyProof.V PyProof.Rows.LCg
theorem allLt_mem {D : Addr} : ∀ {l : List (Addr × Obj)}, AllLt D l → ∀ p ∈ l, p.1 < D
  | [], _, _, h => nomatch h
  | _ :: _, h, p, hp => by
    rcases List.mem_cons.mp hp with rfl | hp
    · exact h.1
    · exact allLt_mem h.2 p hp
theorem comp_end_row {h₀ : Heap} {L I C D x R : Addr} {m : Str → Option Value} {s₁ : Shared} {oI oC oD ox : Obj} {h' : Heap} {tk kk c : Nat} {vs : List Value} {ns : List Int} {nw : List (Addr × Obj)}
    (F : Fr h₀ L h' m) (N : News h₀ L h' ((R, listOf vs.toArray kk) :: (x, ox) :: (I, oI) :: (C, oC) :: (D, oD) :: nw)) (off : Off3 I C D nw) (lt : x < R ∧ I < R ∧ C < R ∧ D < R ∧ AllLt R nw) (hi : IntsAre vs ns) (hw : ns.length = c) :
    CompEnd h₀ L m s₁ I oI C oC D oD (fun _ => True) (fun y news' => ∃ R vs ns kk, y = .ref R ∧ news' = (R, listOf (List.toArray vs) kk) :: nw ∧ IntsAre vs ns ∧ ns.length = c ∧ ∀ p ∈ nw, p.1 ≠ R) (.ref R) { s₁ with heap := h', toks := tk } := by
  obtain ⟨_, l2, l3, l4, l5⟩ := lt
  refine CompEnd.intro F N ((R, listOf vs.toArray kk) :: nw) (fun p hp => ?_) ⟨⟨Nat.ne_of_gt l2, Nat.ne_of_gt l3, Nat.ne_of_gt l4⟩, off⟩ trivial ⟨R, vs, ns, kk, rfl, rfl, hi, hw, fun p hp => Nat.ne_of_lt (allLt_mem l5 p hp)⟩
  simp only [List.mem_cons] at hp ⊢
  rcases hp with h | h | h | h | h
  · exact .inr (.inr (.inl h))
  · exact .inr (.inr (.inr (.inl h)))
  · exact .inr (.inr (.inr (.inr (.inl h))))
  · exact .inl h
  · exact .inr (.inr (.inr (.inr (.inr h))))
theorem Tab.sub {nx keepL keepL' : List (Addr × Obj)} {T : Addr} {n c : Nat} (h : Tab nx keepL T n c) (hs : ∀ p ∈ keepL', p ∈ keepL) : Tab nx keepL' T n c := by
  obtain ⟨hk, refs, k, hT, hl, hr⟩ := h
  refine ⟨fun p hp => hk p (hs p hp), refs, k, hT, hl, fun v hv => ?_⟩
  obtain ⟨R, vs, ns, k', e, hm, hi, hw, ho⟩ := hr v hv
  refine ⟨R, vs, ns, k', e, hm, hi, hw, fun q => ho ?_⟩
  rcases List.mem_cons.mp q with q | q
  · rw [q]; exact .head _
  · obtain ⟨p, hp, e'⟩ := List.mem_map.mp q
    exact .tail _ (List.mem_map.mpr ⟨p, hs p hp, e'⟩)
/-- the outer turn ends behind the inner loop -/
theorem end_inner {h₀ : Heap} {L : Addr} {nx nx' keepL own : List (Addr × Obj)} {T : Addr} {n c : Nat} {J : (Str → Option Value) → Prop} {m' : Str → Option Value} {s₁ : Shared} {h' : Heap} {tk : Nat}
    (F : Fr h₀ L h' m') (N : News h₀ L h' nx') (hoff : OwnOff own (nx.map (·.1))) (h0 : Tab nx keepL T n c) (h : Tab nx' (keepL ++ own) T n c) (hj : J m') :
    InvEndG h₀ L (fun m nx => J m ∧ Tab nx keepL T n c) own s₁ { s₁ with heap := h', toks := tk } := by
  obtain ⟨nx'', h1, h2, h3, h4⟩ := Tab.leave hoff h0 h
  exact InvEndG.intro F N ⟨hj, h4⟩ h3 h1 h2

end
end Mine
namespace Mine
section
open PySem PySem.W PyProof.Rows PySem.Calls PySem.Spec PyProof.V PyProof.Rows.LCg
theorem Tab.mono {nx nx' keepL : List (Addr × Obj)} {T : Addr} {n c : Nat} (h : Tab nx keepL T n c) (hs : ∀ p ∈ nx, p ∈ nx') : Tab nx' keepL T n c := by
  obtain ⟨hk, refs, k, hT, hl, hr⟩ := h
  refine ⟨fun p hp => hs p (hk p hp), refs, k, hs _ hT, hl, fun v hv => ?_⟩
  obtain ⟨R, vs, ns, k', e, hm, hi, hw, ho⟩ := hr v hv
  exact ⟨R, vs, ns, k', e, hs _ hm, hi, hw, ho⟩

inductive PairsIn (news : List (Addr × Obj)) : List Value → List (Int × Int) → Prop
  | nil : PairsIn news [] []
  | cons {T : Addr} {i j : Int} {t u : Tok} {n : Nat} {vs : List Value} {ps : List (Int × Int)} : (T, tupO [.int i t, .int j u] n) ∈ news → PairsIn news vs ps → PairsIn news (.ref T :: vs) ((i, j) :: ps)
theorem PairsIn.mono {news news' : List (Addr × Obj)} (hs : ∀ p ∈ news, p ∈ news') : ∀ {vs : List Value} {ps : List (Int × Int)}, PairsIn news vs ps → PairsIn news' vs ps
  | _, _, .nil => .nil
  | _, _, .cons h r => .cons (hs _ h) (r.mono hs)
theorem PairsIn.snoc {news : List (Addr × Obj)} {T : Addr} {i j : Int} {t u : Tok} {n : Nat} (hm : (T, tupO [.int i t, .int j u] n) ∈ news) : ∀ {vs : List Value} {ps : List (Int × Int)}, PairsIn news vs ps → PairsIn news (vs ++ [Value.ref T]) (ps ++ [(i, j)])
  | _, _, .nil => .cons hm .nil
  | _, _, .cons h r => .cons h (r.snoc hm)
theorem PairsIn.length {news : List (Addr × Obj)} : ∀ {vs : List Value} {ps : List (Int × Int)}, PairsIn news vs ps → vs.length = ps.length
  | _, _, .nil => rfl
  | _, _, .cons _ r => by simp [r.length]
theorem PairsIn.at {news : List (Addr × Obj)} : ∀ {vs : List Value} {ps : List (Int × Int)}, PairsIn news vs ps → ∀ {k : Nat} {v : Value}, vs[k]? = some v → ∃ T i j t u n, v = .ref T ∧ ps[k]? = some (i, j) ∧ (T, tupO [.int i t, .int j u] n) ∈ news
  | _, _, .nil, k, v, h => by simp at h
  | _, _, .cons (T := T) (i := i) (j := j) (t := t) (u := u) (n := n) hm r, 0, v, h => by
    simp only [List.getElem?_cons_zero, Option.some.injEq] at h
    exact ⟨T, i, j, t, u, n, h.symm, rfl, hm⟩
  | _, _, .cons _ r, k + 1, v, h => by
    simp only [List.getElem?_cons_succ] at h ⊢
    exact r.at h

/-- between the turns of matches_of's while -/
def MInv (M : Addr) (keep : List (Addr × Obj)) (m₀ : Str → Option Value) (la lb : Nat) (n : Nat) (m : Str → Option Value) (nx : List (Addr × Obj)) : Prop :=
  ∃ (i j : Int) (ti tj : Tok) (vs : List Value) (k : Nat) (ps : List (Int × Int)) (rest : List (Addr × Obj)), nx = (M, listOf vs.toArray k) :: rest ∧ (∀ p ∈ keep, p ∈ rest) ∧ (∀ p ∈ rest, p.1 ≠ M) ∧ PairsIn rest vs ps ∧ Chain 0 ps i ∧
    0 ≤ i ∧ i ≤ (la : Int) ∧ 0 ≤ j ∧ j ≤ (lb : Int) ∧ vs.length ≤ i.toNat ∧ n = (la - i.toNat) + (lb - j.toNat) ∧ m (PySem.Str.ofString "i") = some (.int i ti) ∧ m (PySem.Str.ofString "j") = some (.int j tj) ∧ ∀ z, z ≠ PySem.Str.ofString "i" → z ≠ PySem.Str.ofString "j" → m z = m₀ z
theorem map_two {m m₀ : Str → Option Value} {x y : Str} {v u : Value} (h1 : m x = some v) (h2 : m y = some u) (h3 : ∀ z, z ≠ x → z ≠ y → m z = m₀ z) : m = fun z => if z = x then some v else if z = y then some u else m₀ z := by
  funext z
  by_cases e1 : z = x
  · rw [if_pos e1, e1, h1]
  · rw [if_neg e1]
    by_cases e2 : z = y
    · rw [if_pos e2, e2, h2]
    · rw [if_neg e2]; exact h3 z e1 e2
/-- a turn that goes on without a match -/
theorem mi_skip {h₀ : Heap} {L M : Addr} {s : Shared} {keep rest news' : List (Addr × Obj)} {m₀ m' : Str → Option Value} {la lb n : Nat} {Q : Flow → Shared → Prop} {h' : Heap} {tk k : Nat} {vs : List Value} {ps : List (Int × Int)} {i j i' j' : Int} {ti tj : Tok}
    (F : Fr h₀ L h' m') (N : News h₀ L h' news') (hn : ∀ p ∈ (M, listOf vs.toArray k) :: rest, p ∈ news') (hk : ∀ p ∈ keep, p ∈ rest) (hM : ∀ p ∈ rest, p.1 ≠ M) (hp : PairsIn rest vs ps) (hc : Chain 0 ps i) (hi0 : 0 ≤ i) (hj0 : 0 ≤ j) (hv : vs.length ≤ i.toNat)
    (hii : i ≤ i') (hi1 : i' ≤ (la : Int)) (hjj : j ≤ j') (hj1 : j' ≤ (lb : Int)) (hlt : i < i' ∨ j < j') (hnn : n = (la - i.toNat) + (lb - j.toNat))
    (e1 : m' (PySem.Str.ofString "i") = some (.int i' ti)) (e2 : m' (PySem.Str.ofString "j") = some (.int j' tj)) (e3 : ∀ z, z ≠ PySem.Str.ofString "i" → z ≠ PySem.Str.ofString "j" → m' z = m₀ z) :
    WhileStep2 h₀ L s (MInv M keep m₀ la lb) Q n .next { s with heap := h', toks := tk } :=
  ⟨h', tk, m', _, (la - i'.toNat) + (lb - j'.toNat), rfl, F, fun p hp => N p (hn p hp), by omega, i', j', ti, tj, vs, k, ps, rest, rfl, hk, hM, hp, hc.up hii, by omega, hi1, by omega, hj1, by omega, rfl, e1, e2, e3⟩
/-- a turn that has found a match -/
theorem mi_hit {h₀ : Heap} {L M T : Addr} {s : Shared} {keep rest : List (Addr × Obj)} {m₀ m' : Str → Option Value} {la lb n : Nat} {Q : Flow → Shared → Prop} {h' : Heap} {tk k k' : Nat} {vs : List Value} {ps : List (Int × Int)} {i j : Int} {ti tj t u : Tok}
    (F : Fr h₀ L h' m') (N : News h₀ L h' (updL M (listOf (vs ++ [Value.ref T]).toArray k') ((T, tupO [.int i t, .int j u] 0) :: (M, listOf vs.toArray k) :: rest))) (hT : M < T) (hk : ∀ p ∈ keep, p ∈ rest) (hM : ∀ p ∈ rest, p.1 ≠ M) (hp : PairsIn rest vs ps) (hc : Chain 0 ps i) (hi0 : 0 ≤ i) (hj0 : 0 ≤ j) (hv : vs.length ≤ i.toNat)
    (hi1 : i < (la : Int)) (hj1 : j < (lb : Int)) (hnn : n = (la - i.toNat) + (lb - j.toNat))
    (e1 : m' (PySem.Str.ofString "i") = some (.int (i + 1) ti)) (e2 : m' (PySem.Str.ofString "j") = some (.int (j + 1) tj)) (e3 : ∀ z, z ≠ PySem.Str.ofString "i" → z ≠ PySem.Str.ofString "j" → m' z = m₀ z) :
    WhileStep2 h₀ L s (MInv M keep m₀ la lb) Q n .next { s with heap := h', toks := tk } := by
  refine ⟨h', tk, m', (M, listOf (vs ++ [Value.ref T]).toArray k') :: (T, tupO [.int i t, .int j u] 0) :: rest, (la - (i + 1).toNat) + (lb - (j + 1).toNat), rfl, F, fun p hp => N p ?_, by omega, i + 1, j + 1, ti, tj, vs ++ [Value.ref T], k', ps ++ [(i, j)], (T, tupO [.int i t, .int j u] 0) :: rest, rfl, fun p hp => .tail _ (hk p hp), fun p hp => ?_,
    (hp.mono fun p hp => .tail _ hp).snoc (.head _), hc.snoc (Int.le_refl _), by omega, by omega, by omega, by omega, by rw [List.length_append, List.length_singleton]; omega, rfl, e1, e2, e3⟩
  · rcases List.mem_cons.mp hp with rfl | hp
    · exact mem_updL_self (o₀ := listOf vs.toArray k) (.tail _ (.head _))
    · rcases List.mem_cons.mp hp with rfl | hp
      · exact mem_updL (.head _) (Nat.ne_of_gt hT)
      · exact mem_updL (.tail _ (.tail _ hp)) (hM p hp)
  · rcases List.mem_cons.mp hp with rfl | hp
    · exact Nat.ne_of_gt hT
    · exact hM p hp

end
end Mine
namespace Mine
section
open PySem PySem.W PyProof.Rows PySem.Calls PySem.Spec PyProof.V PyProof.Rows.LCg
inductive DeedsIn (news : List (Addr × Obj)) : List Value → List (Kd × PySem.Str) → Prop
  | nil : DeedsIn news [] []
  | cons {T : Addr} {k : Kd} {l : PySem.Str} {t u : Tok} {n : Nat} {vs : List Value} {ds : List (Kd × PySem.Str)} : (T, tupO [.str k.s t, .str l u] n) ∈ news → DeedsIn news vs ds → DeedsIn news (.ref T :: vs) ((k, l) :: ds)
theorem DeedsIn.mono {news news' : List (Addr × Obj)} (hs : ∀ p ∈ news, p ∈ news') : ∀ {vs : List Value} {ds : List (Kd × PySem.Str)}, DeedsIn news vs ds → DeedsIn news' vs ds
  | _, _, .nil => .nil
  | _, _, .cons h r => .cons (hs _ h) (r.mono hs)
theorem DeedsIn.append {news : List (Addr × Obj)} {ws : List Value} {es : List (Kd × PySem.Str)} : ∀ {vs : List Value} {ds : List (Kd × PySem.Str)}, DeedsIn news vs ds → DeedsIn news ws es → DeedsIn news (vs ++ ws) (ds ++ es)
  | _, _, .nil, h2 => h2
  | _, _, .cons h r, h2 => .cons h (r.append h2)
theorem DeedsIn.length {news : List (Addr × Obj)} : ∀ {vs : List Value} {ds : List (Kd × PySem.Str)}, DeedsIn news vs ds → vs.length = ds.length
  | _, _, .nil => rfl
  | _, _, .cons _ r => by simp [r.length]
theorem DeedsIn.at {news : List (Addr × Obj)} : ∀ {vs : List Value} {ds : List (Kd × PySem.Str)}, DeedsIn news vs ds → ∀ {j : Nat} {v : Value}, vs[j]? = some v → ∃ T k l t u n, v = .ref T ∧ ds[j]? = some (k, l) ∧ (T, tupO [.str k.s t, .str l u] n) ∈ news
  | _, _, .nil, j, v, h => by simp at h
  | _, _, .cons (T := T) (k := k) (l := l) (t := t) (u := u) (n := n) hm r, 0, v, h => by
    simp only [List.getElem?_cons_zero, Option.some.injEq] at h
    exact ⟨T, k, l, t, u, n, h.symm, rfl, hm⟩
  | _, _, .cons _ r, j + 1, v, h => by
    simp only [List.getElem?_cons_succ] at h ⊢
    exact r.at h

section
variable {prog : Program} {w : World} {A : Around} {E : Value → Shared → Prop} {s : Shared} {h₀ : Heap} {L a b : Addr} {m : Str → Option Value} {news : List (Addr × Obj)} {vs ws : List Value} {n n' : Nat} {value slice : PySem.Expr} {Q : Value → Shared → Prop}
theorem add_mem (F : Fr h₀ L s.heap m) (N : News h₀ L s.heap news) (ha : (a, listOf vs.toArray n) ∈ news) (hb : (b, listOf ws.toArray n') ∈ news) (hz : vs.length + ws.length ≤ 1000000)
    (h : ∀ D h', Fr h₀ L h' m → News h₀ L h' ((D, listOf (vs ++ ws).toArray 0) :: news) → (∀ p ∈ news, p.1 < D) → Q (.ref D) { s with heap := h' }) : wpAny (model prog w) A (binaryOp .Add (.ref a) (.ref b)) Q E s :=
  add_lists F N (News.isList N ha) (News.isList N hb) (fun h' F' N' => h _ h' F' N' fun p hp => Heap.lt_size (N p hp).1) (by rw [sizeLine_eq]; omega)
theorem slice_mem {vl vu : Value} {lo hi : Option Int} (F : Fr h₀ L s.heap m) (N : News h₀ L s.heap news) (ha : (a, listOf vs.toArray n) ∈ news) (pl : IsPart vl lo) (pu : IsPart vu hi) (hz : vs.length ≤ 1000000)
    (h : ∀ D h', Fr h₀ L h' m → News h₀ L h' ((D, listOf (kms_pick vs lo hi).toArray 0) :: news) → Q (.ref D) { s with heap := h' })
    (hs : subscripted slice false (.ref a) (.ref s.heap.objs.size) = operate [.ref s.heap.objs.size, .ref a] (getItem (.ref a) (.ref s.heap.objs.size))) (ht : ∀ r, letTemporaryGo value (.ref a) r = pure ()) :
    wpAny (model prog w) A (subscriptTail value slice (.ref a) (.ref s.heap.objs.size)) Q E { s with heap := s.heap.push { cls := .type "slice", data := .fields #[vl, vu, .none] } } :=
  kms_slice_lit (its := vs.toArray) F N (News.isList N ha) pl pu rfl (fun D h' F' N' _ => h D h' F' N') hs ht (by rw [List.size_toArray, sizeLine_eq]; omega)
end

section
variable {prog : Program} {w : World} {A : Around} {h₀ : Heap} {L : Addr} {m : Str → Option Value} {env : Env} {elt : PySem.Expr} {x : Str} {scope : Scope} {cl : List (Str × Addr)} {s : Shared} {Fin : List Value → List (Addr × Obj) → Prop} {news : List (Addr × Obj)}
theorem comp_deeds (kd : Kd) {ax : Addr} {its : List Value} {ls : List PySem.Str} {k : Nat} (hs : StrsAre its ls) (hax : (ax, listOf its.toArray k) ∈ news)
    (turn : ∀ l t I oI C oC D m₂ ys nw h tk (E' : Value → Shared → Prop), (ax, listOf its.toArray k) ∈ nw → NsObj oC m₂ → m₂ x = some (.str l t) → Fr h₀ L h m → News h₀ L h ((I, oI) :: (C, oC) :: (D, lst ys) :: nw) → Off3 I C D nw → ((@Ne Nat I C) ∧ (@Ne Nat I D) ∧ (@Ne Nat C D)) →
      wpAny (model prog w) A (eval elt (compEnvC scope cl C env)) (CompEnd h₀ L m { s with heap := h, toks := tk } I oI C oC D (lst ys) (SrcAt h₀ ax its.toArray) (fun y news' => ∃ T t1 t2, y = .ref T ∧ news' = (T, tupO [.str kd.s t1, .str l t2] 0) :: nw ∧ ∀ p ∈ nw, p.1 < T)) E' { s with heap := h, toks := tk })
    (fin : ∀ ys tl, DeedsIn tl ys (ls.map fun l => (kd, l)) → (∀ q ∈ tl, ∀ p ∈ news, p.1 < q.1) → Fin ys (tl ++ news)) :
    CompRest prog w A h₀ L m env elt x scope cl s (SrcAt h₀ ax its.toArray) (fun i v => its.toArray[i]? = some v) Fin its.toArray.size 0 [] news := by
  have hlen : its.toArray.size = ls.length := by rw [List.size_toArray, hs.length]
  have key : ∀ (j i : Nat) (ys : List Value) (tl : List (Addr × Obj)), i + j = ls.length → DeedsIn tl ys ((ls.take i).map fun l => (kd, l)) → (∀ q ∈ tl, ∀ p ∈ news, p.1 < q.1) → CompRest prog w A h₀ L m env elt x scope cl s (SrcAt h₀ ax its.toArray) (fun i v => its.toArray[i]? = some v) Fin j i ys (tl ++ news) := by
    intro j
    induction j with
    | zero =>
      intro i ys tl hi hr ho
      have e : i = ls.length := by omega
      subst e
      rw [List.take_length] at hr
      exact CompRest.zero (fin ys tl hr ho)
    | succ j ih =>
      intro i ys tl hi hr ho
      refine CompRest.succ ?_
      intro v I oI C oC D m₂ h tk E' hv hC hx F N off ne
      have hlt : i < ls.length := by omega
      obtain ⟨t, ht⟩ := hs.get i (ls[i]'hlt) (List.getElem?_eq_getElem hlt)
      have hv' : its[i]? = some v := by simpa using hv
      rw [ht] at hv'
      have ev := (Option.some.inj hv').symm
      subst ev
      refine wpAny_mono (turn _ t I oI C oC D m₂ ys (tl ++ news) h tk E' (List.mem_append_right _ hax) hC hx F N off ne) (fun y s₂ hq => ?_) fun _ _ e => e
      obtain ⟨h', tk', nw, e, F', N', off', hS, T, t1, t2, rfl, rfl, hTn⟩ := hq
      refine ⟨h', tk', _, e, F', N', off', hS, ?_⟩
      refine ih (i + 1) (ys ++ [.ref T]) ((T, tupO [.str kd.s t1, .str (ls[i]'hlt) t2] 0) :: tl) (by omega) ?_ (fun q hq p hp => by
        rcases List.mem_cons.mp hq with rfl | hq
        · exact hTn p (List.mem_append_right _ hp)
        · exact ho q hq p hp)
      rw [List.take_add_one, List.getElem?_eq_getElem hlt, List.map_append]
      exact (hr.mono fun p hp => .tail _ hp).append (.cons (.head _) .nil)
  have := key ls.length 0 [] [] (by omega) (by simpa using DeedsIn.nil) (fun _ h => nomatch h)
  rw [hlen]
  simpa using this
theorem comp_end_deed (kd : Kd) {I C D T ax : Addr} {s₁ : Shared} {oI oC oD : Obj} {its : List Value} {h' : Heap} {tk k : Nat} {l : PySem.Str} {t1 t2 : Tok} {nw : List (Addr × Obj)}
    (F : Fr h₀ L h' m) (N : News h₀ L h' ((T, tupO [.str kd.s t1, .str l t2] 0) :: (I, oI) :: (C, oC) :: (D, oD) :: nw)) (off : Off3 I C D nw) (hax : (ax, listOf its.toArray k) ∈ nw) (lt : I < T ∧ C < T ∧ D < T ∧ AllLt T nw) :
    CompEnd h₀ L m s₁ I oI C oC D oD (SrcAt h₀ ax its.toArray) (fun y news' => ∃ T t1 t2, y = .ref T ∧ news' = (T, tupO [.str kd.s t1, .str l t2] 0) :: nw ∧ ∀ p ∈ nw, p.1 < T) (.ref T) { s₁ with heap := h', toks := tk } := by
  obtain ⟨l2, l3, l4, l5⟩ := lt
  refine CompEnd.intro F N ((T, tupO [.str kd.s t1, .str l t2] 0) :: nw) (fun p hp => ?_) ⟨⟨Nat.ne_of_gt l2, Nat.ne_of_gt l3, Nat.ne_of_gt l4⟩, off⟩ (.inr ⟨_, .tail _ hax, rfl, k, rfl⟩) ⟨T, t1, t2, rfl, rfl, fun p hp => allLt_mem l5 p hp⟩
  simp only [List.mem_cons] at hp ⊢
  rcases hp with h | h | h | h | h
  · exact .inr (.inl h)
  · exact .inr (.inr (.inl h))
  · exact .inr (.inr (.inr (.inl h)))
  · exact .inl h
  · exact .inr (.inr (.inr (.inr h)))
end

/-- between the turns of diff's loop -/
def DInv (keep : List (Addr × Obj)) (m₀ : Str → Option Value) (la : List PySem.Str) (full : List (Int × Int)) (t : Nat) (m : Str → Option Value) (nx : List (Addr × Obj)) : Prop :=
  ∃ (j : Int) (ti tj : Tok) (S : Addr) (sv : List Value) (sk : Nat) (ds : List (Kd × PySem.Str)), (∀ p ∈ keep, p ∈ nx) ∧ (S, listOf sv.toArray sk) ∈ nx ∧ DeedsIn nx sv ds ∧ src ds = la.take (nxt 0 (full.take t)).toNat ∧ sv.length ≤ 300 * t ∧
    m (PySem.Str.ofString "script") = some (.ref S) ∧ m (PySem.Str.ofString "i") = some (.int (nxt 0 (full.take t)) ti) ∧ m (PySem.Str.ofString "j") = some (.int j tj) ∧
    ∀ z, z ≠ PySem.Str.ofString "pair" → z ≠ PySem.Str.ofString "script" → z ≠ PySem.Str.ofString "i" → z ≠ PySem.Str.ofString "j" → m z = m₀ z
theorem map_four {m m₀ : Str → Option Value} {p x y z : Str} {q a b c : Value} (h1 : m x = some a) (h2 : m y = some b) (h3 : m z = some c) (h4 : ∀ i, i ≠ p → i ≠ x → i ≠ y → i ≠ z → m i = m₀ i) :
    (fun i => if i = p then some q else m i) = fun i => if i = p then some q else if i = x then some a else if i = y then some b else if i = z then some c else m₀ i := by
  funext i
  by_cases e0 : i = p
  · rw [if_pos e0, if_pos e0]
  · rw [if_neg e0, if_neg e0]
    by_cases e1 : i = x
    · rw [if_pos e1, e1, h1]
    · rw [if_neg e1]
      by_cases e2 : i = y
      · rw [if_pos e2, e2, h2]
      · rw [if_neg e2]
        by_cases e3 : i = z
        · rw [if_pos e3, e3, h3]
        · rw [if_neg e3]; exact h4 i e0 e1 e2 e3
theorem take_next {α : Type} {l : List α} {t : Nat} {x : α} (h : l[t]? = some x) : l.take (t + 1) = l.take t ++ [x] ∧ l = l.take t ++ x :: l.drop (t + 1) := by
  have e : l.take (t + 1) = l.take t ++ [x] := by rw [List.take_add_one, h]; rfl
  refine ⟨e, ?_⟩
  have h9 := List.take_append_drop (t + 1) l
  rw [e, List.append_assoc] at h9
  exact h9.symm
theorem full_pairs {h₀ h : Heap} {L D1 D2 l3 M : Addr} {o2 o3 o4 : Obj} {i j : Int} {t u : Tok} {n : Nat} {tl : List (Addr × Obj)} {mv : List Value} {ps : List (Int × Int)} (_N : News h₀ L h ((D2, o2) :: (l3, o3) :: (D1, tupO [.int i t, .int j u] n) :: (M, o4) :: tl)) (hP : PairsIn tl mv ps) :
    PairsIn ((D2, o2) :: (l3, o3) :: (D1, tupO [.int i t, .int j u] n) :: (M, o4) :: tl) (mv ++ [Value.ref D1]) (ps ++ [(i, j)]) :=
  (hP.mono fun _ h => .tail _ (.tail _ (.tail _ (.tail _ h)))).snoc (.tail _ (.tail _ (.head _)))

theorem dinv_end {h₀ : Heap} {L l S : Addr} {o : Obj} {m₀ m' : Str → Option Value} {la : List PySem.Str} {full : List (Int × Int)} {t k : Nat} {s₁ : Shared} {h' : Heap} {tk : Nat} {ledger own nx keep tl1 tl2 tl3 : List (Addr × Obj)} {sv : List Value} {ds : List (Kd × PySem.Str)} {j : Int} {ti tj : Tok}
    (F : Fr h₀ L h' m') (N : News h₀ L h' ledger) (hS : (S, listOf sv.toArray k) ∈ ledger) (hD : DeedsIn (tl3 ++ (tl2 ++ (tl1 ++ nx))) sv ds) (hsrc : src ds = la.take (nxt 0 (full.take (t + 1))).toNat) (hlen : sv.length ≤ 300 * (t + 1))
    (hoff : OwnOff own (nx.map (·.1))) (hl : (l, o) ∈ nx) (hkeep : ∀ p ∈ keep, p ∈ nx) (s0 : ∀ p ∈ own, p ∈ ledger) (sx : ∀ p ∈ nx, p ∈ ledger) (s1 : ∀ p ∈ tl1, p ∈ ledger) (s2 : ∀ p ∈ tl2, p ∈ ledger) (s3 : ∀ p ∈ tl3, p ∈ ledger)
    (aS : ∀ p ∈ own, p.1 < S) (a1 : ∀ q ∈ tl1, ∀ p ∈ own, p.1 < q.1) (a2 : ∀ q ∈ tl2, ∀ p ∈ own, p.1 < q.1) (a3 : ∀ q ∈ tl3, ∀ p ∈ own, p.1 < q.1)
    (e1 : m' (PySem.Str.ofString "script") = some (.ref S)) (e2 : m' (PySem.Str.ofString "i") = some (.int (nxt 0 (full.take (t + 1))) ti)) (e3 : m' (PySem.Str.ofString "j") = some (.int j tj))
    (e4 : ∀ z, z ≠ PySem.Str.ofString "pair" → z ≠ PySem.Str.ofString "script" → z ≠ PySem.Str.ofString "i" → z ≠ PySem.Str.ofString "j" → m' z = m₀ z) :
    InvEndG h₀ L (fun m' nx => (l, o) ∈ nx ∧ DInv keep m₀ la full (t + 1) m' nx) own s₁ { s₁ with heap := h', toks := tk } := by
  have up : ∀ p ∈ nx, p ∈ (S, listOf sv.toArray k) :: (tl3 ++ (tl2 ++ (tl1 ++ nx))) := fun p hp => .tail _ (List.mem_append_right _ (List.mem_append_right _ (List.mem_append_right _ hp)))
  refine InvEndG.intro (nx := (S, listOf sv.toArray k) :: (tl3 ++ (tl2 ++ (tl1 ++ nx)))) F N ⟨up _ hl, j, ti, tj, S, sv, k, ds, fun p hp => up p (hkeep p hp), .head _, hD.mono fun p hp => .tail _ hp, hsrc, hlen, e1, e2, e3, e4⟩ ?_ ?_ s0
  · intro p hp b hb e
    obtain ⟨q, hq, rfl⟩ := List.mem_map.mp hb
    rcases List.mem_cons.mp hq with rfl | hq
    · exact absurd (aS p hp) (by rw [e]; exact Nat.lt_irrefl _)
    · rcases List.mem_append.mp hq with hq | hq
      · exact absurd (a3 q hq p hp) (by rw [e]; exact Nat.lt_irrefl _)
      · rcases List.mem_append.mp hq with hq | hq
        · exact absurd (a2 q hq p hp) (by rw [e]; exact Nat.lt_irrefl _)
        · rcases List.mem_append.mp hq with hq | hq
          · exact absurd (a1 q hq p hp) (by rw [e]; exact Nat.lt_irrefl _)
          · exact hoff p hp q.1 (List.mem_map.mpr ⟨q, hq, rfl⟩) e
  · intro p hp
    rcases List.mem_cons.mp hp with rfl | hp
    · exact hS
    · rcases List.mem_append.mp hp with hp | hp
      · exact s3 p hp
      · rcases List.mem_append.mp hp with hp | hp
        · exact s2 p hp
        · rcases List.mem_append.mp hp with hp | hp
          · exact s1 p hp
          · exact sx p hp

end
end Mine
namespace Mine
section
open PySem PySem.W PyProof.Rows PySem.Calls PySem.Spec PyProof.V PyProof.Rows.LCg
/-- between the turns of patch's loop -/
def PInv (R : Addr) (rest : List (Addr × Obj)) (m₀ : Str → Option Value) (lo : List PySem.Str) (ds : List (Kd × PySem.Str)) (t : Nat) (m : Str → Option Value) (nx : List (Addr × Obj)) : Prop :=
  ∃ (tok : Tok) (rv : List Value) (rk : Nat), nx = (R, listOf rv.toArray rk) :: rest ∧ rv.length ≤ t ∧ lo.take (src (ds.take t)).length = src (ds.take t) ∧ m (PySem.Str.ofString "place") = some (.int ((src (ds.take t)).length : Int) tok) ∧
    ∀ z, z ≠ PySem.Str.ofString "deed" → z ≠ PySem.Str.ofString "place" → m z = m₀ z
theorem map_one {m m₀ : Str → Option Value} {p x : Str} {q a : Value} (h1 : m x = some a) (h4 : ∀ i, i ≠ p → i ≠ x → m i = m₀ i) :
    (fun i => if i = p then some q else m i) = fun i => if i = p then some q else if i = x then some a else m₀ i := by
  funext i
  by_cases e0 : i = p
  · rw [if_pos e0, if_pos e0]
  · rw [if_neg e0, if_neg e0]
    by_cases e1 : i = x
    · rw [if_pos e1, e1, h1]
    · rw [if_neg e1]; exact h4 i e0 e1
theorem p_end {h₀ : Heap} {L R l : Addr} {o : Obj} {m₀ m' : Str → Option Value} {lo : List PySem.Str} {ds : List (Kd × PySem.Str)} {t rk rk' : Nat} {s₁ : Shared} {h' : Heap} {tk : Nat} {ledger own rest : List (Addr × Obj)} {rv rv' : List Value} {tok : Tok}
    (F : Fr h₀ L h' m') (N : News h₀ L h' ledger) (hR : (R, listOf rv'.toArray rk') ∈ ledger) (hr : ∀ p ∈ rest, p ∈ ledger) (hw : ∀ p ∈ own, p ∈ ledger) (hoff : OwnOff own (((R, listOf rv.toArray rk) :: rest).map (·.1))) (hl : (l, o) ∈ rest) (hlen : rv'.length ≤ t + 1)
    (hpre : lo.take (src (ds.take (t + 1))).length = src (ds.take (t + 1))) (e1 : m' (PySem.Str.ofString "place") = some (.int ((src (ds.take (t + 1))).length : Int) tok)) (e2 : ∀ z, z ≠ PySem.Str.ofString "deed" → z ≠ PySem.Str.ofString "place" → m' z = m₀ z) :
    InvEndG h₀ L (fun m' nx => (l, o) ∈ nx ∧ PInv R rest m₀ lo ds (t + 1) m' nx) own s₁ { s₁ with heap := h', toks := tk } := by
  refine InvEndG.intro (nx := (R, listOf rv'.toArray rk') :: rest) F N ⟨.tail _ hl, tok, rv', rk', rfl, hlen, hpre, e1, e2⟩ hoff (fun p hp => ?_) hw
  rcases List.mem_cons.mp hp with rfl | hp
  · exact hR
  · exact hr p hp
theorem in_upd {R : Addr} {o' : Obj} {ledger : List (Addr × Obj)} {q : Addr × Obj} (h : q ∈ ledger) (hn : q.1 ≠ R) : q ∈ updL R o' ledger := mem_updL h hn

section
variable {prog : Program} {w : World} {A : Around} {E : Value → Shared → Prop} {s : Shared} {h₀ : Heap} {L a : Addr} {m : Str → Option Value} {name : Str} {scope : Scope} {cd : Value}
theorem digits_small {n : Nat} (hn : n ≤ 100) : ((n : Int)).natAbs.log2 < 1920 := by
  have := Nat.log2_le_self n
  show (Int.natAbs (n : Int)).log2 < 1920
  rw [Int.natAbs_natCast]
  omega
theorem text_small {n : Nat} (hn : n ≤ 100) : (PySem.Str.ofString (toString (n : Int))).length ≤ 4 := by
  rw [PySem.ofString_length]
  exact int_text_length_le10 (k := 3) (by decide) (by rw [Int.natAbs_natCast]; omega)
theorem fstr3 {x s1 s2 : PySem.Str} {k1 k2 : Nat} {p0 p1 p2 p3 p4 : Pos} {n : Nat} {t : Tok} {Q : Value → Shared → Prop} (F : Fr h₀ L s.heap m) (hv : m x = some (.int (n : Int) t)) (hn : n ≤ 100) (l1 : s1.length ≤ 1000) (l2 : s2.length ≤ 1000)
    (h : ∀ y t k, Q (.str y t) { s with toks := k })
    (hk : scope.kind = .function := by rfl) (hl : (envOf name scope L a cd).kindOf x = some .local := by rfl) (hd : (x == ("__debug__" : Str)) = false := by decide) :
    wpAny (model prog w) A (eval (.JoinedStr [.Constant (.str s1) k1 p1, .FormattedValue (.Name x p2) (-1) none p3, .Constant (.str s2) k2 p4] p0) (envOf name scope L a cd)) Q E s := by
  have ht := text_small hn
  refine JoinedStr_many (joinParts_cons (Calls.Constant_str ?_))
  refine ⟨by rw [Str.length_append, sizeLine_eq]; have : (Str.empty).length = 0 := rfl; omega, ?_⟩
  refine joinParts_cons (FormattedValue_plain (ld F hv ?_ hk hl hd))
  refine formatField_int_small (digits_small hn) ?_
  refine ⟨by rw [Str.length_append, Str.length_append, sizeLine_eq]; have : (Str.empty).length = 0 := rfl; omega, ?_⟩
  refine joinParts_cons (Calls.Constant_str ?_)
  refine ⟨by rw [Str.length_append, Str.length_append, Str.length_append, sizeLine_eq]; have : (Str.empty).length = 0 := rfl; omega, ?_⟩
  exact joinParts_nil (h _ _ _) (by rw [Str.length_append, Str.length_append, Str.length_append, sizeLine_eq]; have : (Str.empty).length = 0 := rfl; omega)
end

theorem leave_true {fs : List Addr} {h₀ g g' : Heap} {L L' : Addr} {m m' : Str → Option Value} {news' : List (Addr × Obj)} {R : Result → Shared → Prop} {b : Bool} {s' : Shared} (hb : b = true) (F' : Fr g' L' s'.heap m') (N' : News g' L' s'.heap news') (T : KtsTurn fs g g')
    (k : Fr h₀ L s'.heap m → News h₀ L s'.heap news' → R (.ok (.ret (.bool true))) s') : LeaveS0 fs h₀ L m g R (.bool b) s' := by
  subst hb
  exact leaveS0_ F' N' T k

theorem getD_ne {lo : List PySem.Str} {n : Nat} {l e : PySem.Str} (h : (lo.getD ((n : Int)).toNat e != l) = true) : lo[n]? ≠ some l := by
  intro q
  rw [Int.toNat_natCast, List.getD_eq_getElem?_getD, q] at h
  simp at h
theorem getD_eq {lo : List PySem.Str} {n : Nat} {l e : PySem.Str} (hn : ¬ ((lo.length : Int) ≤ (n : Int))) (h : (lo.getD ((n : Int)).toNat e != l) = false) : lo[n]? = some l := by
  have hlt : n < lo.length := by omega
  rw [Int.toNat_natCast, List.getD_eq_getElem?_getD, List.getElem?_eq_getElem hlt] at h
  simp at h
  rw [List.getElem?_eq_getElem hlt, h]
theorem rest_ne {D R : Addr} {o : Obj} {tl : List (Addr × Obj)} (h : D < R ∧ AllLt R tl) : ∀ q ∈ (D, o) :: tl, q.1 ≠ R := by
  intro q hq
  rcases List.mem_cons.mp hq with rfl | hq
  · exact Nat.ne_of_lt h.1
  · exact Nat.ne_of_lt (allLt_mem h.2 q hq)
theorem split_la {ds : List (Kd × PySem.Str)} {la : List PySem.Str} {t : Nat} {k : Kd} {l : PySem.Str} (hsrc : src ds = la) (hspl : ds = ds.take t ++ (k, l) :: ds.drop (t + 1)) (hk : k ≠ .add) : la = src (ds.take t) ++ l :: src (ds.drop (t + 1)) := by
  rw [← hsrc]
  conv => lhs; rw [hspl]
  exact src_split hk
theorem own_ne {own rest : List (Addr × Obj)} {R : Addr} {o : Obj} (h : OwnOff own (((R, o) :: rest).map (·.1))) {q : Addr × Obj} (hq : q ∈ own) : q.1 ≠ R := h q hq R (List.mem_map.mpr ⟨_, List.mem_cons_self, rfl⟩)
theorem true_ne {lo la : List PySem.Str} (h : lo ≠ la) : (true == !decide (lo = la)) = true := by simp [h]
theorem false_eq {lo la : List PySem.Str} (h : lo = la) : (false == !decide (lo = la)) = true := by simp [h]
theorem map_out1 {m m₀ : Str → Option Value} {p x : Str} {a : Value} (h1 : m x = some a) (h4 : ∀ i, i ≠ p → i ≠ x → m i = m₀ i) : m = fun i => if i = p then m i else if i = x then some a else m₀ i := by
  funext i
  by_cases e0 : i = p
  · rw [if_pos e0]
  · rw [if_neg e0]
    by_cases e1 : i = x
    · rw [if_pos e1, e1, h1]
    · rw [if_neg e1]; exact h4 i e0 e1

end
end Mine
namespace Mine
section
open PySem PySem.W PyProof.Rows PySem.Calls PySem.Spec PyProof.V PyProof.Rows.LCg
/-- values that are texts, few and laid well -/
structure TL (vs : List Value) (ls : List PySem.Str) (k : Nat) : Prop where
  sa1 : StrsAre vs ls
  le1 : ls.length ≤ k
  ok1 : OkL ls
theorem OkL.pk {ls : List PySem.Str} (h : OkL ls) (lo hi : Option Int) : OkL (pk ls lo hi) := fun x hx => h x (List.mem_of_mem_drop (List.mem_of_mem_take hx))
theorem TL.cut {vs : List Value} {ls : List PySem.Str} {k : Nat} (h : TL vs ls k) (lo hi : Option Int) : TL (kms_pick vs lo hi) (Mine.pk ls lo hi) k := ⟨strs_pk h.sa1 lo hi, Nat.le_trans (pk_le ls lo hi) h.le1, h.ok1.pk lo hi⟩
theorem TL.add {vs ws : List Value} {ls ms : List PySem.Str} {k j : Nat} (h : TL vs ls k) (h2 : TL ws ms j) : TL (vs ++ ws) (ls ++ ms) (k + j) := ⟨h.sa1.append' h2.sa1, by rw [List.length_append]; exact Nat.add_le_add h.le1 h2.le1, fun x hx => (List.mem_append.mp hx).elim (h.ok1 x) (h2.ok1 x)⟩
theorem TL.one {x : PySem.Str} {t : Tok} (h : PyData.strOk x = true) : TL [.str x t] [x] 1 := ⟨.cons x t .nil, Nat.le_refl _, fun y hy => by rw [List.mem_singleton.mp hy]; exact h⟩
theorem pk_all {α : Type} (l : List α) : Mine.pk l none none = l := by
  show (l.drop 0).take (l.length - 0) = l
  rw [List.drop_zero, Nat.sub_zero, List.take_length]
theorem kms_all (l : List Value) : kms_pick l none none = l := by
  show (l.drop 0).take (l.length - 0) = l
  rw [List.drop_zero, Nat.sub_zero, List.take_length]

section
variable {prog : Program} {w : World} {A : Around} {E : Value → Shared → Prop} {s : Shared} {h₀ : Heap} {L a b : Addr} {m : Str → Option Value} {news : List (Addr × Obj)} {vs ws : List Value} {ls ms : List PySem.Str} {n n' k j : Nat} {value slice : PySem.Expr} {Q : Value → Shared → Prop}
theorem len_tl (N : News h₀ L s.heap news) (hm : (a, listOf vs.toArray n) ∈ news) (hs : TL vs ls k) (hz : k ≤ 1000) (h : ∀ t i, Q (.int (ls.length : Int) t) { s with toks := i }) : wpAny (model prog w) A (call (.builtin "len") [.ref a]) Q E s :=
  len_mem N hm hs.sa1 (Nat.le_trans hs.le1 (by omega)) h
theorem copy_tl {vl vu : Value} (F : Fr h₀ L s.heap m) (N : News h₀ L s.heap news) (ha : (a, listOf vs.toArray n) ∈ news) (pl : IsPart vl none) (pu : IsPart vu none) (hs : TL vs ls k) (hz : k ≤ 1000)
    (h : ∀ D h', Fr h₀ L h' m → News h₀ L h' ((D, listOf vs.toArray 0) :: news) → Q (.ref D) { s with heap := h' })
    (hsb : subscripted slice false (.ref a) (.ref s.heap.objs.size) = operate [.ref s.heap.objs.size, .ref a] (getItem (.ref a) (.ref s.heap.objs.size))) (ht : ∀ r, letTemporaryGo value (.ref a) r = pure ()) :
    wpAny (model prog w) A (subscriptTail value slice (.ref a) (.ref s.heap.objs.size)) Q E { s with heap := s.heap.push { cls := .type "slice", data := .fields #[vl, vu, .none] } } := by
  refine slice_mem F N ha pl pu (by rw [hs.sa1.length]; exact Nat.le_trans hs.le1 (by omega)) (fun D h' F' N' => h D h' F' ?_) hsb ht
  rw [kms_all] at N'
  exact N'
theorem cut_tl {vl vu : Value} {lo hi : Option Int} (F : Fr h₀ L s.heap m) (N : News h₀ L s.heap news) (ha : (a, listOf vs.toArray n) ∈ news) (pl : IsPart vl lo) (pu : IsPart vu hi) (hs : TL vs ls k) (hz : k ≤ 1000)
    (h : ∀ D us is h', Fr h₀ L h' m → News h₀ L h' ((D, listOf (List.toArray us) 0) :: news) → TL us is k → Q (.ref D) { s with heap := h' })
    (hsb : subscripted slice false (.ref a) (.ref s.heap.objs.size) = operate [.ref s.heap.objs.size, .ref a] (getItem (.ref a) (.ref s.heap.objs.size))) (ht : ∀ r, letTemporaryGo value (.ref a) r = pure ()) :
    wpAny (model prog w) A (subscriptTail value slice (.ref a) (.ref s.heap.objs.size)) Q E { s with heap := s.heap.push { cls := .type "slice", data := .fields #[vl, vu, .none] } } :=
  slice_mem F N ha pl pu (by rw [hs.sa1.length]; exact Nat.le_trans hs.le1 (by omega)) (fun D h' F' N' => h D _ _ h' F' N' (hs.cut lo hi)) hsb ht
theorem add_tl (F : Fr h₀ L s.heap m) (N : News h₀ L s.heap news) (ha : (a, listOf vs.toArray n) ∈ news) (hb : (b, listOf ws.toArray n') ∈ news) (hs : TL vs ls k) (hs2 : TL ws ms j) (hz : k + j ≤ 1000)
    (h : ∀ D us is h', Fr h₀ L h' m → News h₀ L h' ((D, listOf (List.toArray us) 0) :: news) → TL us is (k + j) → Q (.ref D) { s with heap := h' }) : wpAny (model prog w) A (binaryOp .Add (.ref a) (.ref b)) Q E s :=
  add_mem F N ha hb (by rw [hs.sa1.length, hs2.sa1.length]; have := hs.le1; have := hs2.le1; omega) fun D h' F' N' _ => h D _ _ h' F' N' (hs.add hs2)
theorem ne_tl (N : News h₀ L s.heap news) (ha : (a, listOf vs.toArray n) ∈ news) (hb : (b, listOf vs.toArray n') ∈ news) (hs : TL vs ls k) (hu : A.units + 64 < cLine) (h : Q (.bool false) s) :
    wpAny (model prog w) A (compareOp .NotEq (.ref a) (.ref b)) Q E s :=
  ne_strs (News.isList N ha) (News.isList N hb) hs.sa1 hs.sa1 hs.ok1 hs.ok1 hu (by simpa using h)
end

section
variable {prog : Program} {w : World} {A : Around} {h₀ : Heap} {L : Addr} {m : Str → Option Value} {env : Env} {elt : PySem.Expr} {x : Str} {scope : Scope} {cl : List (Str × Addr)} {s : Shared} {Fin : List Value → List (Addr × Obj) → Prop} {news : List (Addr × Obj)}
theorem comp_texts {n : Nat} {a : Int}
    (turn : ∀ k t I oI C oC D m₂ ys h tk (E' : Value → Shared → Prop), a ≤ k → k < a + (n : Int) → NsObj oC m₂ → m₂ x = some (.int k t) → Fr h₀ L h m → News h₀ L h ((I, oI) :: (C, oC) :: (D, lst ys) :: news) → Off3 I C D news → ((@Ne Nat I C) ∧ (@Ne Nat I D) ∧ (@Ne Nat C D)) →
      wpAny (model prog w) A (eval elt (compEnvC scope cl C env)) (CompEnd h₀ L m { s with heap := h, toks := tk } I oI C oC D (lst ys) (fun _ => True) (fun y news' => news' = news ∧ ∃ x t, y = .str x t ∧ PyData.strOk x = true)) E' { s with heap := h, toks := tk })
    (fin : ∀ ys ls, TL ys ls n → ls.length = n → Fin ys news) :
    CompRest prog w A h₀ L m env elt x scope cl s (fun _ => True) (fun i v => ∃ t, v = .int (a + (i : Int)) t) Fin n 0 [] news := by
  have key : ∀ (j i : Nat) (ys : List Value) (ls : List PySem.Str), i + j = n → StrsAre ys ls → ls.length = i → OkL ls → CompRest prog w A h₀ L m env elt x scope cl s (fun _ => True) (fun i v => ∃ t, v = .int (a + (i : Int)) t) Fin j i ys news := by
    intro j
    induction j with
    | zero =>
      intro i ys ls hi hs hl ho
      exact CompRest.zero (fin ys ls ⟨hs, by omega, ho⟩ (by omega))
    | succ j ih =>
      intro i ys ls hi hs hl ho
      refine CompRest.succ ?_
      rintro v I oI C oC D m₂ h tk E' ⟨t, rfl⟩ hC hx F N off ne
      refine wpAny_mono (turn _ t I oI C oC D m₂ ys h tk E' (by omega) (by omega) hC hx F N off ne) (fun y s₂ hq => ?_) fun _ _ e => e
      obtain ⟨h', tk', nw, e, F', N', off', hS, rfl, z, t', rfl, hz⟩ := hq
      refine ⟨h', tk', _, e, F', N', off', hS, ?_⟩
      refine ih (i + 1) (ys ++ [.str z t']) (ls ++ [z]) (by omega) (hs.append' (.cons z t' .nil)) (by rw [List.length_append, List.length_singleton, hl]) fun y hy => ?_
      rcases List.mem_append.mp hy with q | q
      · exact ho y q
      · rw [List.mem_singleton.mp q]; exact hz
  exact key n 0 [] [] (by omega) .nil rfl (fun _ h => nomatch h)
theorem comp_end_text {I C D : Addr} {s₁ : Shared} {oI oC oD : Obj} {h' : Heap} {tk : Nat} {y : PySem.Str} {t : Tok} {extra nw : List (Addr × Obj)}
    (F : Fr h₀ L h' m) (N : News h₀ L h' (extra ++ (I, oI) :: (C, oC) :: (D, oD) :: nw)) (off : Off3 I C D nw) (hy : PyData.strOk y = true) :
    CompEnd h₀ L m s₁ I oI C oC D oD (fun _ => True) (fun y news' => news' = nw ∧ ∃ x t, y = .str x t ∧ PyData.strOk x = true) (.str y t) { s₁ with heap := h', toks := tk } :=
  CompEnd.intro F N nw (fun _ hp => List.mem_append_right _ hp) off trivial ⟨rfl, y, t, rfl, hy⟩
end

theorem fmod_in (v : Int) {k : Int} (hk : 0 < k) : 0 ≤ v.fmod k ∧ v.fmod k < k := ⟨Int.fmod_nonneg_of_pos v hk, Int.fmod_lt_of_pos v hk⟩
abbrev theLines : List PySem.Str := [PySem.Str.ofString "a", PySem.Str.ofString "b", PySem.Str.ofString "", PySem.Str.ofString "-a", PySem.Str.ofString "----"]
theorem lines_ok {n : Nat} (h : n < theLines.length) : PyData.strOk (theLines.getD n PySem.Str.empty) = true := by
  have all : ∀ n, n < 5 → PyData.strOk (theLines.getD n PySem.Str.empty) = true := by decide +kernel
  exact all n h

end
end Mine
open Mine
local macro_rules | `(tactic| walk_at "Mine.mem") => `(tactic| first | with_reducible assumption | with_reducible exact List.mem_cons_self | (with_reducible refine List.mem_cons_of_mem _ ?_; walk_at "Mine.mem") | (with_reducible refine List.mem_append_left _ ?_; walk_at "Mine.mem") | (with_reducible refine List.mem_append_right _ ?_; walk_at "Mine.mem"))
local macro_rules | `(tactic| k_steps) => `(tactic| repeat' ((fail_if_success (with_reducible show LCg.CompSrc _ _ _ _ _ _ _ _ _ _ _ _ _ _)); (fail_if_success (with_reducible show wpAny _ _ (pyIter _) _ _ _)); (fail_if_success (with_reducible show LCg.CompEnd _ _ _ _ _ _ _ _ _ _ _ _ _ _)); (fail_if_success (with_reducible show InvEndG _ _ _ _ _ _)); (fail_if_success (with_reducible show LeaveK _ _ _ _ _ _ _)); (fail_if_success (with_reducible show LeaveS0 _ _ _ _ _ _ _ _)); (fail_if_success (with_reducible show wpAny _ _ (call (Value.ref _) _) _ _ _)); (fail_if_success (with_reducible show wpAny _ _ (exec (PySem.Stmt.While _ _ _ _) _) _ _ _)); (fail_if_success (with_reducible show WhileStep2 _ _ _ _ _ _ _ _)); (first | (k_unfold; (try dsimp only)) | (k_end; wrow_close) | walk1 | (dsimp only; walk1) | (leave1; walk_say "STEP leave1"; try dsimp only) | fail "no step")))
local macro_rules | `(tactic| walk_at "call builtin:len") => `(tactic| (k_here; (with_reducible show wpAny _ _ (call (Value.builtin "len") [Value.ref _]) _ _ _); k_dflt (refine Mine.len_mem (by k_asm) (by walk_at "Mine.mem") (by assumption) (by omega) ?_); intro _ _))
local macro_rules | `(tactic| walk_at "subscriptTail") => `(tactic| (k_here; (with_reducible show wpAny _ _ (subscriptTail _ _ (Value.ref _) (Value.int _ _)) _ _ _); k_dflt (refine' Mine.tup_mem ?k1 ?k2 ?k3 ?k4 ?k5 ?k6 ?_ ?k7; (case k1 => k_asm); (case k2 => walk_at "Mine.mem"); (case k3 => decide); (case k4 => decide); (case k5 => exact rfl); (case k6 => exact rfl); (case k7 => with_unfolding_all rfl))))
local macro_rules | `(tactic| walk_at "subscriptTail") => `(tactic| (k_here; (with_reducible show wpAny _ _ (subscriptTail _ _ (Value.ref _) (Value.int _ _)) _ _ _); k_dflt (refine' ksa_sub ?k1 ?k2 ?k3 ?k4 ?k5 ?k6 ?_ ?k7; (case k1 => k_asm); (case k2 => walk_at "Mine.mem"); (case k3 => with_reducible assumption); (case k4 => omega); (case k5 => omega); (case k6 => omega); (case k7 => with_unfolding_all rfl)); intro _))
local macro_rules | `(tactic| walk_at "subscriptTail") => `(tactic| (k_here; (with_reducible show wpAny _ _ (subscriptTail _ _ (Value.ref _) (Value.int _ _)) _ _ _); k_dflt (refine Mine.str_mem (by k_asm) (by walk_at "Mine.mem") (by assumption) (by omega) (by omega) (by omega) ?_ (by with_unfolding_all rfl)); intro _))
local macro_rules | `(tactic| walk_at "subscriptTail") => `(tactic| (k_here; (with_reducible show wpAny _ _ (subscriptTail _ _ (Value.ref _) (Value.int _ _)) _ _ _); k_dflt (refine Mine.row_mem (by k_asm) (by with_reducible assumption) (by intro p9 h9; walk_at "Mine.mem") (by omega) (by omega) (by omega) ?_ (by with_unfolding_all rfl)); intro R9 vs9 ns9 k9 hRx9 hR9 hI9 hW9 hRT9 hRk9))
local macro_rules | `(tactic| walk_at "eval Name") => `(tactic| (k_here; (with_reducible show wpAny _ _ (eval (Expr.Name _ _) (compEnvC _ _ _ _)) _ _ _); k_dflt (first
  | (refine LCgL.ld_own (by k_asm) (by walk_at "Mine.mem") (by assumption) (by assumption) ?_)
  | (refine' lcf_cell ?N ?c ?m ?d ?_ ?a ?b; (case a => rfl); (case b => rfl); (case N => k_asm); (case c => rfl); (case m => walk_at "Mine.mem"); (case d => k_asm); k_whole)
  | (refine' lcf_free ?N ?c ?m ?d ?_ ?a ?b; (case a => rfl); (case b => rfl); (case N => k_asm); (case c => rfl); (case m => walk_at "Mine.mem"); (case d => k_asm); k_whole)
  | (refine LCgL.ld_global (by k_asm) (by k_asm) (by k_asm) (by k_is) ?_)
  | (refine LCgL.ld_built (by k_asm) (by k_asm) (by k_asm) (by k_is) (by boot_by_name) (by decide) ?_))))
local macro_rules | `(tactic| walk_at "setItem ref int") => `(tactic| (k_here; (with_reducible show wpAny _ _ (setItem (Value.ref _) (Value.int _ _) _) _ _ _); k_dflt (refine Mine.set_mem (by k_asm) (by k_asm) (by walk_at "Mine.mem") (by omega) (by (rw [IntsAre.length (by assumption)]; omega)) (by omega) ?_); intro h9 F9 N9; (try k_sweep)))
local macro_rules | `(tactic| walk_at "call builtin:list.append") => `(tactic| (k_here; (with_reducible show wpAny _ _ (call (Value.builtin _) [Value.ref _, _]) _ _ _); k_dflt (refine Mine.append_mem (by k_asm) (by k_asm) (by walk_at "Mine.mem") (by omega) ?_); intro h9 F9 N9; (try k_sweep)))
local macro_rules | `(tactic| walk_at "binaryOp Add ref ref") => `(tactic| (k_here; (with_reducible show wpAny _ _ (binaryOp _ (Value.ref _) (Value.ref _)) _ _ _); k_dflt (refine' Mine.add_mem ?k1 ?k2 ?k3 ?k4 ?k5 ?_; (case k1 => k_asm); (case k2 => k_asm); (case k3 => walk_at "Mine.mem"); (case k4 => walk_at "Mine.mem"); (case k5 => first | omega | ((simp only [List.length_append, List.length_cons, List.length_nil]); omega))); intro D9 h9 F9 N9 lt9; (try k_sweep)))
local macro_rules | `(tactic| walk_at "subscriptTail Name Slice ref ref") => `(tactic| (k_here; (with_reducible show wpAny _ _ (subscriptTail _ (PySem.Expr.Slice _ _ none _) (Value.ref _) (Value.ref _)) _ _ _); k_dflt (refine' Mine.slice_mem ?F ?N ?a ?p ?q ?z ?_ ?s ?t; (case F => k_asm); (case N => k_asm); (case a => walk_at "Mine.mem"); (case p => kmk_part); (case q => kmk_part); (case s => with_unfolding_all rfl); (case t => kmk_pure); (case z => (rw [StrsAre.length (by assumption)]; omega))); intro D9 h9 F9 N9; (try k_sweep)))
local macro_rules | `(tactic| walk_at "eval ListComp") => `(tactic| (k_here; k_dflt (refine LCg.ListComp_U (F₀ := by k_asm) (by rfl) (by decide) (by rfl) (by decide) (by rfl) ?_)))
local macro_rules | `(tactic| walk_at "exec For Name BinOp cons nil") => `(tactic| (k_here; (rename Fr _ _ _ _ => lF'); (with_unfolding_all refine' For_invVF lF' ?k1 ?k2 ?_; (case k1 => exact rfl); (case k2 => exact rfl); k_whole)))
local macro_rules | `(tactic| walk_at "exec For Name Name cons nil") => `(tactic| (k_here; (rename Fr _ _ _ _ => lF'); (with_unfolding_all refine' For_invVF lF' ?k1 ?k2 ?_; (case k1 => exact rfl); (case k2 => exact rfl); k_whole)))
local macro_rules | `(tactic| walk_at "eval JoinedStr") => `(tactic| (k_here; k_dflt (refine' Mine.fstr3 ?k1 ?k2 ?k3 ?k4 ?k5 ?_ ?k6 ?k7 ?k8; (case k1 => k_asm); (case k2 => exact rfl); (case k3 => assumption); (case k4 => decide +kernel); (case k5 => decide +kernel); (case k6 => exact rfl); (case k7 => exact rfl); (case k8 => decide)); intro _ _ _))
local macro_rules | `(tactic| walk_at "compareOp NotEq ref ref") => `(tactic| (k_here; (with_reducible show wpAny _ _ (compareOp CmpOp.NotEq (Value.ref _) (Value.ref _)) _ _ _); k_dflt (refine' Mine.ne_strs ?k1 ?k2 ?k3 ?k4 ?k5 ?k6 ?k7 ?_; (case k1 => exact News.isList (by k_asm) (by walk_at "Mine.mem")); (case k2 => exact News.isList (by k_asm) (by walk_at "Mine.mem")); (case k3 => assumption); (case k4 => assumption); (case k5 => assumption); (case k6 => assumption); (case k7 => (simp only [units_deeper, Around.mark_units, units_caller]; decide)))))
local macro_rules | `(tactic| walk_at "subscriptTail") => `(tactic| (k_here; (with_reducible show wpAny _ _ (subscriptTail _ _ (Value.ref 59) (Value.int _ _)) _ _ _); k_dflt (refine' KTb.item_tup (ws := Mine.theLines) ?k1 ?k2 ?k3 ?k4 ?k5 ?_ ?k6; (case k1 => with_unfolding_all exact Fr.tup (by k_asm) (tupK (by k_asm) (by k_is))); (case k2 => repeat constructor); (case k3 => omega); (case k4 => ((show _ < (5 : Int)); omega)); (case k5 => omega); (case k6 => with_unfolding_all rfl)); intro t9 hlt9; (have hok9 := Mine.lines_ok hlt9)))
namespace Mine
set_option maxRecDepth 100000 in
set_option maxHeartbeats 8000000 in
theorem lcs_spec {w : World} {p : Program} {loose : List PySem.Str} {mean : ExcName → Option Value} {mg mb : PySem.Str → Option Value} {dp un : Nat} {gd : Option (List Code)} {cn : PySem.Str} {cs : Scope} {fa : Addr} {ccd : Value} {cl : List (PySem.Str × Addr)} {outer : List Env} {A₀ : Around} {base h₀ : Heap} {L : Addr} {m : PySem.Str → Option Value} {news : List (Addr × Obj)} {s : Shared}
    {aA bA : Addr} {va vb : List Value} {na nb : Nat} {Q E : Value → Shared → Prop}
    (B : Below A₀ base outer h₀) (F : Fr h₀ L s.heap m) (X : (hd.heap_39 w.params).In h₀) (N : News h₀ L s.heap news) (T : Top p loose mean mg mb h₀) (hk : cs.kind = .function)
    (ha : (aA, listOf va.toArray na) ∈ news) (hb : (bA, listOf vb.toArray nb) ∈ news) {la lb : List PySem.Str} (sa : StrsAre va la) (sb : StrsAre vb lb)
    (la9 : la.length ≤ 100) (lb9 : lb.length ≤ 100) (hdp : dp < 900) (hun : un < 900)
    (ret : ∀ TA tl h' tk', Fr h₀ L h' m → News h₀ L h' tl → (∀ p ∈ news, p ∈ tl) → Tab tl news TA (la.length + 1) (lb.length + 1) → Q (.ref TA) { s with heap := h', toks := tk' }) :
    wpAny (model PySem.Challenge.rw_k17_0038.row.prog w) (ktrTop dp un gd cn cs L fa ccd cl outer) (call (.ref 32) [.ref aA, .ref bA]) Q E s := by
  w_top off
  revert X
  k_fill
  intro X
  refine wpAny_call ?_
  refine' code_defC B F X N T rfl rfl hk ?k6 ?k7 ?k8 ?k9 ?kB ?kD ?_ ?c2 ?c3 ?c4
  case k6 => k_is
  case k7 => k_is
  case k8 => simp only [recursionLimit]; omega
  case k9 => exact BindsTo.of_eq rfl
  case kB => exact rfl
  case kD => decide +kernel
  case c2 => exact rfl
  case c3 => exact rfl
  case c4 => exact rfl
  intro g L' h' tk' cells' FG F' N' Y' B' X' T' l1
  have hY := CellsAre.one Y'
  obtain ⟨oB, hE, d1⟩ := hY
  subst hE
  clear Y'
  have dB : oB.data = .cell (some (.ref bA)) := d1.trans rfl
  clear d1
  simp only [List.cons_append, List.nil_append] at N'
  clear F N T X
  dsimp only
  try k_fold
  k_steps
  case _ =>
    refine LCg.CompSrc.range (by rfl) (by k_asm) (by k_asm) (by assumption) (small_one (by omega) (by omega) (by omega) (by omega)) (rangeSize_nat _ _) (by rw [PySem.sizeLine_eq]; omega) ?_
    intro g'
    refine comp_rows (c := lb.length + 1) ?turn ?fin
    case turn =>
      intro k t I oI C oC D m₂ ys nw h tk E' hsub hC hx F2 N2 off ne
      have hcell := hsub _ List.mem_cons_self
      have ha' := hsub _ (List.mem_cons_of_mem _ ha)
      have hb' := hsub _ (List.mem_cons_of_mem _ hb)
      k_steps
      case _ =>
        exact comp_end_row (by assumption) (by assumption) off (by assumption) (by assumption) (by omega)
    case fin =>
      intro ys tl hl hr
      unfold LCg.FinA
      intro TA h9 tk9 F9 N9 o9
      have ht := tab_made hl hr o9
      have hcell : (L' + 1, oB) ∈ tl ++ (L' + 1, oB) :: news := List.mem_append_right _ List.mem_cons_self
      have ha' : (aA, listOf va.toArray na) ∈ tl ++ (L' + 1, oB) :: news := List.mem_append_right _ (List.mem_cons_of_mem _ ha)
      have hb' : (bA, listOf vb.toArray nb) ∈ tl ++ (L' + 1, oB) :: news := List.mem_append_right _ (List.mem_cons_of_mem _ hb)
      k_steps
      case _ =>
        refine down_loop [PySem.Str.ofString "j"] (fun nx => Tab nx ((L' + 1, oB) :: news) TA (la.length + 1) (lb.length + 1)) rfl (by assumption) (small_down (by omega) (by omega) (by omega) (by omega)) (rangeSize_downNat _ _) (by assumption) (by assumption) ht ?turn ?done
        case turn =>
          clear ht
          intro k t u nx h tk own hk1 hk2 hoff hT F2 N2
          have hcell := hT.1 _ List.mem_cons_self
          have ha' := hT.1 _ (List.mem_cons_of_mem _ ha)
          have hb' := hT.1 _ (List.mem_cons_of_mem _ hb)
          k_steps
          case _ =>
            refine down_loop [] (fun nx' => Tab nx' (((L' + 1, oB) :: news) ++ own) TA (la.length + 1) (lb.length + 1)) rfl (by assumption) (small_down (by omega) (by omega) (by omega) (by omega)) (rangeSize_downNat _ _) (by assumption) (by assumption) (hT.enter hoff) ?turn2 ?done2
            case turn2 =>
              clear hT hcell ha' hb'
              intro k2 t2 u2 nx2 h2 tk2 own2 hk3 hk4 hoff2 hT2 F3 N3
              have hcell := hT2.1 _ (List.mem_append_left _ List.mem_cons_self)
              have ha' := hT2.1 _ (List.mem_append_left _ (List.mem_cons_of_mem _ ha))
              have hb' := hT2.1 _ (List.mem_append_left _ (List.mem_cons_of_mem _ hb))
              k_steps
              all_goals exact end_set (by assumption) (by assumption) hoff2 hT2 (by assumption) (by assumption) (by assumption) (by assumption) (by assumption) (by intro z z1 z2; simp only [if_neg z1, List.contains_nil, Bool.false_eq_true, if_false])
            case done2 =>
              intro u2 nx2 h2 tk2 hT2 F3 N3
              k_steps
              exact end_inner (by assumption) (by assumption) hoff hT hT2 (by
                intro z z1 z2
                have z3 : z ≠ PySem.Str.ofString "j" := by
                  rintro rfl
                  exact absurd z2 (by decide)
                simp only [if_neg z3, if_neg z1, z2, List.contains_nil, Bool.false_eq_true, if_false])
        case done =>
          clear ht
          intro u nx h tk hT F2 N2
          k_steps
          refine leaveK_ F2 N2 (fun F3 N3 => ?_)
          exact ret TA nx h tk F3 N3 (fun q hq => hT.1 q (List.mem_cons_of_mem _ hq)) (hT.sub fun q hq => List.mem_cons_of_mem _ hq)
set_option maxRecDepth 100000 in
set_option maxHeartbeats 8000000 in
theorem matches_spec {w : World} {p : Program} {loose : List PySem.Str} {mean : ExcName → Option Value} {mg mb : PySem.Str → Option Value} {dp un : Nat} {gd : Option (List Code)} {cn : PySem.Str} {cs : Scope} {fa : Addr} {ccd : Value} {cl : List (PySem.Str × Addr)} {outer : List Env} {A₀ : Around} {base h₀ : Heap} {L : Addr} {m : PySem.Str → Option Value} {news : List (Addr × Obj)} {s : Shared}
    {aA bA : Addr} {va vb : List Value} {na nb : Nat} {Q E : Value → Shared → Prop}
    (B : Below A₀ base outer h₀) (F : Fr h₀ L s.heap m) (X : (hd.heap_39 w.params).In h₀) (N : News h₀ L s.heap news) (T : Top p loose mean mg mb h₀) (hk : cs.kind = .function)
    (ha : (aA, listOf va.toArray na) ∈ news) (hb : (bA, listOf vb.toArray nb) ∈ news) {la lb : List PySem.Str} (sa : StrsAre va la) (sb : StrsAre vb lb)
    (la9 : la.length ≤ 100) (lb9 : lb.length ≤ 100) (hdp : dp < 800) (hun : un < 800)
    (ret : ∀ M vs k ps tl h' tk', Fr h₀ L h' m → News h₀ L h' ((M, listOf vs.toArray k) :: tl) → (∀ p ∈ news, p ∈ tl) → PairsIn tl vs ps → Chain 0 ps la.length → vs.length ≤ 100 → Q (.ref M) { s with heap := h', toks := tk' }) :
    wpAny (model PySem.Challenge.rw_k17_0038.row.prog w) (ktrTop dp un gd cn cs L fa ccd cl outer) (call (.ref 39) [.ref aA, .ref bA]) Q E s := by
  w_top off
  revert X
  k_fill
  intro X
  refine wpAny_call ?_
  refine' code_def B F X N T rfl rfl hk ?k6 ?k7 ?k8 ?k9 ?kB ?_ ?c2 ?c3 ?c4 ?c5
  case k6 => k_is
  case k7 => k_is
  case k8 => simp only [recursionLimit]; omega
  case k9 => exact BindsTo.of_eq rfl
  case kB => exact locs rfl
  case c2 => exact rfl
  case c3 => exact rfl
  case c4 => exact rfl
  case c5 => decide
  intro g L' h' FG F' N' B' X' T'
  clear F N T X
  dsimp only
  try k_fold
  k_steps
  case _ =>
    refine lcs_spec B' F' X' N' T' rfl ha hb sa sb la9 lb9 (by show dp + 1 < 900; omega) (by show un + 3 < 900; omega) ?_
    intro TA tl h2 tk2 F2 N2 hsub hT
    have ha' := hsub _ ha
    have hb' := hsub _ hb
    k_steps
    case _ =>
      rename News _ _ _ _ => N3
      rename Fr _ _ _ _ => F3
      rename (∀ p ∈ _, Prod.fst p < _) => lt3
      refine While_inv2 (MInv _ tl _ la.length lb.length) F3 N3 ⟨0, 0, _, _, [], 0, [], tl, rfl, fun _ h => h, fun p hp => Nat.ne_of_lt (lt3 p hp), .nil, Int.le_refl _, by omega, by omega, by omega, by omega, Nat.zero_le _, rfl, rfl, rfl, fun _ _ _ => rfl⟩ ?_
      clear F3 N3
      intro n m₁ nx h1 tk1 F1 N1 hJ
      obtain ⟨i, j, ti, tj, vs, k, ps, rest, rfl, hkeep, hM, hP, hC, hi0, hi1, hj0, hj1, hv, hn, e1, e2, e3⟩ := hJ
      rw [map_two e1 e2 e3] at F1
      clear e1 e2 e3
      have hT' := hT.mono hkeep
      have ha1 := hkeep _ ha'
      have hb1 := hkeep _ hb'
      clear hT ha' hb'
      k_steps
      all_goals first
        | exact mi_hit (by assumption) (by assumption) (by rename (_ ∧ AllLt _ rest) => q9; exact q9.1) hkeep hM hP hC hi0 hj0 hv (by omega) (by omega) hn (by rfl) (by rfl) (by intro z z1 z2; simp only [if_neg z1, if_neg z2])
        | exact mi_skip (i' := i + 1) (j' := j) (by assumption) (by assumption) (fun _ h => h) hkeep hM hP hC hi0 hj0 hv (by omega) (by omega) (by omega) (by omega) (by omega) hn (by rfl) (by rfl) (by intro z z1 z2; simp only [if_neg z1, if_neg z2])
        | exact mi_skip (i' := i) (j' := j + 1) (by assumption) (by assumption) (fun _ h => h) hkeep hM hP hC hi0 hj0 hv (by omega) (by omega) (by omega) (by omega) (by omega) hn (by rfl) (by rfl) (by intro z z1 z2; simp only [if_neg z1, if_neg z2])
        | (rename News _ _ _ _ => N6; rename Fr _ _ _ _ => F6; refine leaveK_ F6 N6 (fun F5 N5 => ?_); exact ret _ vs k ps rest h1 _ F5 N5 (fun q hq => hkeep q (hsub q hq)) hP (hC.up (by omega)) (by omega))
set_option maxRecDepth 100000 in
set_option maxHeartbeats 8000000 in
theorem diff_spec {w : World} {p : Program} {loose : List PySem.Str} {mean : ExcName → Option Value} {mg mb : PySem.Str → Option Value} {dp un : Nat} {gd : Option (List Code)} {cn : PySem.Str} {cs : Scope} {fa : Addr} {ccd : Value} {cl : List (PySem.Str × Addr)} {outer : List Env} {A₀ : Around} {base h₀ : Heap} {L : Addr} {m : PySem.Str → Option Value} {news : List (Addr × Obj)} {s : Shared}
    {aA bA : Addr} {va vb : List Value} {na nb : Nat} {Q E : Value → Shared → Prop}
    (B : Below A₀ base outer h₀) (F : Fr h₀ L s.heap m) (X : (hd.heap_39 w.params).In h₀) (N : News h₀ L s.heap news) (T : Top p loose mean mg mb h₀) (hk : cs.kind = .function)
    (ha : (aA, listOf va.toArray na) ∈ news) (hb : (bA, listOf vb.toArray nb) ∈ news) {la lb : List PySem.Str} (sa : StrsAre va la) (sb : StrsAre vb lb)
    (la9 : la.length ≤ 100) (lb9 : lb.length ≤ 100) (hdp : dp < 700) (hun : un < 700)
    (ret : ∀ D vs k ds tl h' tk', Fr h₀ L h' m → News h₀ L h' ((D, listOf vs.toArray k) :: tl) → (∀ p ∈ news, p ∈ tl) → DeedsIn tl vs ds → src ds = la → vs.length ≤ 40000 → Q (.ref D) { s with heap := h', toks := tk' }) :
    wpAny (model PySem.Challenge.rw_k17_0038.row.prog w) (ktrTop dp un gd cn cs L fa ccd cl outer) (call (.ref 44) [.ref aA, .ref bA]) Q E s := by
  w_top off
  revert X
  k_fill
  intro X
  refine wpAny_call ?_
  refine' code_def B F X N T rfl rfl hk ?k6 ?k7 ?k8 ?k9 ?kB ?_ ?c2 ?c3 ?c4 ?c5
  case k6 => k_is
  case k7 => k_is
  case k8 => simp only [recursionLimit]; omega
  case k9 => exact BindsTo.of_eq rfl
  case kB => exact locs rfl
  case c2 => exact rfl
  case c3 => exact rfl
  case c4 => exact rfl
  case c5 => decide
  intro g L' h' FG F' N' B' X' T'
  clear F N T X
  dsimp only
  try k_fold
  k_steps
  case _ =>
    refine matches_spec B' (by assumption) X' (by assumption) T' rfl (by walk_at "Mine.mem") (by walk_at "Mine.mem") sa sb la9 lb9 (by show dp + 1 < 800; omega) (by show un + 3 < 800; omega) ?_
    intro M mv mk ps tl h2 tk2 F2 N2 hsub hP hC hmv
    have hS := hsub _ List.mem_cons_self
    have ha' := hsub _ (List.mem_cons_of_mem _ ha)
    have hb' := hsub _ (List.mem_cons_of_mem _ hb)
    k_steps
    case _ =>
      rename_i D1 h3 lt1 l3 h4 lt2 D2 h5 F3 N3 lt3
      have hPf := full_pairs N3 hP
      refine kdl_iter (DInv _ _ la (ps ++ [((la.length : Int), (lb.length : Int))])) rfl List.mem_cons_self F3 N3 ⟨0, _, _, _, [], 0, [], fun _ h => h, by walk_at "Mine.mem", .nil, rfl, Nat.zero_le _, rfl, rfl, rfl, fun _ _ _ _ _ => rfl⟩ ?turn ?done
      case turn =>
        clear F3 N3 lt3 lt2 lt1
        intro t v m₁ nx h tk own hv hoff hl hJ F1 N1
        obtain ⟨j, ti, tj, S, sv, sk, ds, hkeep, hSm, hD, hsrc, hsv, e1, e2, e3, e4⟩ := hJ
        have ht : t < 101 := by
          have q := (List.getElem?_eq_some_iff.mp hv).1
          rw [List.length_append, List.length_singleton] at q
          omega
        obtain ⟨TP, pi, pj, tp, tq, np, rfl, hfull, hTP⟩ := hPf.at hv
        obtain ⟨hnx, hspl⟩ := take_next hfull
        have hCf : Chain 0 (ps ++ [((la.length : Int), (lb.length : Int))]) (la.length + 1) := hC.snoc (Int.le_refl _)
        rw [hspl] at hCf
        have hat := hCf.at
        have hnn : nxt 0 ((ps ++ [((la.length : Int), (lb.length : Int))]).take (t + 1)) = pi + 1 := by rw [hnx, nxt_snoc]
        rw [map_four e1 e2 e3 e4] at F1
        clear hCf hspl hnx hfull e1 e2 e3 e4 hv
        have hTP' := hkeep _ hTP
        have ha1 := hkeep _ (List.mem_cons_of_mem _ (List.mem_cons_of_mem _ (List.mem_cons_of_mem _ (List.mem_cons_of_mem _ ha'))))
        have hb1 := hkeep _ (List.mem_cons_of_mem _ (List.mem_cons_of_mem _ (List.mem_cons_of_mem _ (List.mem_cons_of_mem _ hb'))))
        clear ha' hb' hTP hPf
        k_steps
        case _ =>
          refine LCg.CompSrc.ledger (by rfl) (by k_asm) (by k_asm) (by walk_at "Mine.mem") (by rw [List.size_toArray, (strs_pk sa _ _).length, PySem.sizeLine_eq]; exact Nat.le_trans (pk_le la _ _) (by omega)) ?_
          intro g1
          refine comp_deeds .del (strs_pk sa _ _) (by walk_at "Mine.mem") ?t1 ?f1
          case t1 =>
            intro l t9 I oI C oC D m₂ ys nw h9 tk9 E' hax hC9 hx F9 N9 off ne
            k_steps
            exact comp_end_deed .del (by assumption) (by assumption) off hax (by assumption)
          case f1 =>
            intro ys1 tl1 hD1 ho1
            unfold LCg.FinE
            intro C1 h9 tk9 F9 N9 o9
            have hy1 : ys1.length ≤ 100 := by
              rw [hD1.length, List.length_map]
              exact Nat.le_trans (pk_le la _ _) la9
            k_steps
            case _ =>
              refine LCg.CompSrc.ledger (by rfl) (by k_asm) (by k_asm) (by walk_at "Mine.mem") (by rw [List.size_toArray, (strs_pk sb _ _).length, PySem.sizeLine_eq]; exact Nat.le_trans (pk_le lb _ _) (by omega)) ?_
              intro g2
              refine comp_deeds .add (strs_pk sb _ _) (by walk_at "Mine.mem") ?t2 ?f2
              case t2 =>
                intro l t9 I oI C oC D m₂ ys nw h9 tk9 E' hax hC9 hx F9 N9 off ne
                k_steps
                exact comp_end_deed .add (by assumption) (by assumption) off hax (by assumption)
              case f2 =>
                intro ys2 tl2 hD2 ho2
                unfold LCg.FinE
                intro C2 h9 tk9 F9 N9 o9
                have hy2 : ys2.length ≤ 100 := by
                  rw [hD2.length, List.length_map]
                  exact Nat.le_trans (pk_le lb _ _) lb9
                k_steps
                case _ =>
                  refine LCg.CompSrc.ledger (by rfl) (by k_asm) (by k_asm) (by walk_at "Mine.mem") (by rw [List.size_toArray, (strs_pk sa _ _).length, PySem.sizeLine_eq]; exact Nat.le_trans (pk_le la _ _) (by omega)) ?_
                  intro g3
                  refine comp_deeds .keep (strs_pk sa _ _) (by walk_at "Mine.mem") ?t3 ?f3
                  case t3 =>
                    intro l t9 I oI C oC D m₂ ys nw h9 tk9 E' hax hC9 hx F9 N9 off ne
                    k_steps
                    exact comp_end_deed .keep (by assumption) (by assumption) off hax (by assumption)
                  case f3 =>
                    intro ys3 tl3 hD3 ho3
                    unfold LCg.FinE
                    intro C3 h9 tk9 F9 N9 o9
                    have hy3 : ys3.length ≤ 100 := by
                      rw [hD3.length, List.length_map]
                      exact Nat.le_trans (pk_le la _ _) la9
                    have hDD : DeedsIn (tl3 ++ (tl2 ++ (tl1 ++ nx))) (((sv ++ ys1) ++ ys2) ++ ys3) _ := (((hD.mono (by intro q hq; walk_at "Mine.mem")).append (hD1.mono (by intro q hq; walk_at "Mine.mem"))).append (hD2.mono (by intro q hq; walk_at "Mine.mem"))).append (hD3.mono (by intro q hq; walk_at "Mine.mem"))
                    have hss := step_src (x := pk lb (some j) (some pj)) hat.2 hat.1 hsrc
                    k_steps
                    case _ =>
                      rename (∀ p ∈ _, Prod.fst p < _) => ltS
                      exact dinv_end (tl1 := tl1) (tl2 := tl2) (tl3 := tl3) (nx := nx) (own := own) (j := pj + 1) (by assumption) (by assumption) (by walk_at "Mine.mem") hDD (by rw [hnn]; exact hss) (by simp only [List.length_append]; omega) hoff hl hkeep
                        (by intro q hq; walk_at "Mine.mem") (by intro q hq; walk_at "Mine.mem") (by intro q hq; walk_at "Mine.mem") (by intro q hq; walk_at "Mine.mem") (by intro q hq; walk_at "Mine.mem")
                        (by intro q hq; exact ltS q (by walk_at "Mine.mem")) (by intro q hq r hr; exact ho1 q hq r (by walk_at "Mine.mem")) (by intro q hq r hr; exact ho2 q hq r (by walk_at "Mine.mem")) (by intro q hq r hr; exact ho3 q hq r (by walk_at "Mine.mem"))
                        (by rfl) (by rw [hnn]; rfl) (by rfl) (by intro z z1 z2 z3 z4; simp only [if_neg z1, if_neg z2, if_neg z3, if_neg z4])
      case done =>
        clear F3 N3
        intro m₁ nx h tk hJ F1 N1
        obtain ⟨j, ti, tj, S, sv, sk, ds, hkeep, hSm, hD, hsrc, hsv, e1, e2, e3, e4⟩ := hJ
        have hlen := hPf.length
        rw [hlen, List.take_length, nxt_snoc] at hsrc
        have hsrc' : src ds = la := hsrc.trans (List.take_of_length_le (by omega))
        have em : (fun i => if i = PySem.Str.ofString "script" then some (Value.ref S) else m₁ i) = m₁ := by
          funext i
          by_cases q : i = PySem.Str.ofString "script"
          · rw [if_pos q, q, e1]
          · rw [if_neg q]
        rw [← em] at F1
        have hsl : sv.length ≤ 40000 := by
          rw [List.length_append, List.length_singleton] at hsv
          omega
        clear e1 e2 e3 e4 em
        k_steps
        rename News _ _ _ _ => N6
        rename Fr _ _ _ _ => F6
        refine leaveK_ F6 (news' := (S, listOf sv.toArray sk) :: nx) (fun q hq => by
          rcases List.mem_cons.mp hq with rfl | hq
          · exact N6 _ hSm
          · exact N6 q hq) (fun F5 N5 => ?_)
        exact ret S sv sk ds nx h _ F5 N5 (fun q hq => hkeep q (List.mem_cons_of_mem _ (List.mem_cons_of_mem _ (List.mem_cons_of_mem _ (List.mem_cons_of_mem _ (hsub q (List.mem_cons_of_mem _ hq))))))) hD hsrc' hsl
set_option maxRecDepth 100000 in
set_option maxHeartbeats 8000000 in
theorem refused_spec {w : World} {p : Program} {loose : List PySem.Str} {mean : ExcName → Option Value} {mg mb : PySem.Str → Option Value} {cn : PySem.Str} {cs : Scope} {fa : Addr} {ccd : Value} {h₀ : Heap} {L : Addr} {m : PySem.Str → Option Value} {news : List (Addr × Obj)} {s : Shared}
    {aA bA oA : Addr} {va vb vo : List Value} {na nb no : Nat} {la lb lo : List PySem.Str} {Q E : Value → Shared → Prop}
    (B : Below callerA h₀ [] h₀) (F : Fr h₀ L s.heap m) (X : (hd.heap_39 w.params).In h₀) (N : News h₀ L s.heap news) (T : Top p loose mean mg mb h₀) (hk : cs.kind = .function)
    (ha : (aA, listOf va.toArray na) ∈ news) (hb : (bA, listOf vb.toArray nb) ∈ news) (ho : (oA, listOf vo.toArray no) ∈ news) (sa : StrsAre va la) (sb : StrsAre vb lb) (so : StrsAre vo lo)
    (la9 : la.length ≤ 100) (lb9 : lb.length ≤ 100) (lo9 : lo.length ≤ 100) (oa : OkL la) (oo : OkL lo)
    (ret : ∀ h' tk', Fr h₀ L h' m → News h₀ L h' news → Q (.bool true) { s with heap := h', toks := tk' }) :
    wpAny (model PySem.Challenge.rw_k17_0038.row.prog w) (callerA.deeper (envOf cn cs L fa ccd)) (call (.ref 58) [.ref aA, .ref bA, .ref oA]) Q E s := by
  w_top off
  revert X
  k_fill
  intro X
  refine wpAny_call ?_
  refine' code_defS0 B F X N T rfl ?k6 ?k7 ?k8 ?k9 ?kB ?_ hk ?c2 ?c3 ?c4 ?c5
  case k6 => k_is
  case k7 => k_is
  case k8 => k_room
  case k9 => exact BindsTo.of_eq rfl
  case kB => exact locs rfl
  case c2 => exact rfl
  case c3 => exact rfl
  case c4 => exact rfl
  case c5 => decide
  intro g L2 h1 FG F2 N2 B2 X2 T2 D2
  dsimp only
  try k_fold
  k_steps
  case _ =>
    rename Fr _ _ _ _ => F3
    rename News _ _ _ _ => N3
    refine diff_spec B2 F3 X2 N3 T2 rfl ha hb sa sb la9 lb9 (by simp only [depth_deeper, depth_caller]; decide) (by simp only [units_deeper, units_caller]; decide) ?_
    clear F3 N3
    intro D dv dk ds tl h2 tk2 F4 N4 hsub hD hsrc hdl
    have ha' := hsub _ ha
    have ho' := hsub _ ho
    k_steps
    walk1
    k_steps
    case _ =>
      rename (_ ∧ AllLt _ tl) => lt3
      rename Fr _ _ _ _ => F3
      rename News _ _ _ _ => N3
      refine kdl_iter (PInv _ ((D, listOf dv.toArray dk) :: tl) _ lo ds) rfl (List.mem_cons_of_mem _ List.mem_cons_self) F3 N3 ⟨_, [], 0, rfl, Nat.zero_le _, rfl, rfl, fun _ _ _ => rfl⟩ ?turn ?done
      case turn =>
        clear F3 N3
        intro t v m₁ nx h tk own hv hoff hl hJ F1 N1
        obtain ⟨tok, rv, rk, rfl, hrv, hpre, e1, e2⟩ := hJ
        obtain ⟨TD, k, l, t1, t2, n9, rfl, hds, hTD⟩ := hD.at hv
        have ht : t < 40000 := by
          have q := (List.getElem?_eq_some_iff.mp hv).1
          omega
        obtain ⟨hnx, hspl⟩ := take_next hds
        have hpl : (src (ds.take t)).length ≤ 100 := by
          have q := congrArg List.length hpre
          rw [List.length_take] at q
          omega
        rw [map_one e1 e2] at F1
        clear e1 e2 hv hds
        have hTD' : (TD, tupO [.str k.s t1, .str l t2] n9) ∈ (D, listOf dv.toArray dk) :: tl := List.mem_cons_of_mem _ hTD
        clear hTD
        have hRne := rest_ne (o := listOf dv.toArray dk) lt3
        cases k with
        | keep =>
          have hT9 : (TD, tupO [.str (PySem.Str.ofString "keep") t1, .str l t2] n9) ∈ (D, listOf dv.toArray dk) :: tl := hTD'
          clear hTD'
          have hla := split_la hsrc hspl (by intro q; cases q)
          k_steps
          all_goals first
            | (refine leave_true (true_ne (raise_ne hla (by first | exact Or.inl (by omega) | exact Or.inr (getD_ne (by assumption))))) (by assumption) (by assumption) (by assumption) (fun F5 N5 => ?_)
               exact ret _ _ F5 (fun q hq => N5 q (by (have h9 := hsub q hq); walk_at "Mine.mem")))
            | exact p_end (rv' := rv ++ [.str l t2]) (rk' := rk + 1) (by assumption) (by assumption) (mem_updL_self (o₀ := listOf rv.toArray rk) (by walk_at "Mine.mem")) (by intro q hq; exact mem_updL (by walk_at "Mine.mem") (hRne q hq)) (by intro q hq; exact mem_updL (by walk_at "Mine.mem") (own_ne hoff hq)) hoff List.mem_cons_self (by rw [List.length_append, List.length_singleton]; omega)
                (by rw [hnx, src_snoc_keep]; exact pre_more hpre (getD_eq (by assumption) (by assumption))) (by rw [hnx, src_snoc_keep, List.length_append, List.length_singleton, Int.natCast_add]; rfl) (by intro z z1 z2; simp only [if_neg z1, if_neg z2])
        | del =>
          have hT9 : (TD, tupO [.str (PySem.Str.ofString "del") t1, .str l t2] n9) ∈ (D, listOf dv.toArray dk) :: tl := hTD'
          clear hTD'
          have hla := split_la hsrc hspl (by intro q; cases q)
          k_steps
          all_goals first
            | (refine leave_true (true_ne (raise_ne hla (by first | exact Or.inl (by omega) | exact Or.inr (getD_ne (by assumption))))) (by assumption) (by assumption) (by assumption) (fun F5 N5 => ?_)
               exact ret _ _ F5 (fun q hq => N5 q (by (have h9 := hsub q hq); walk_at "Mine.mem")))
            | exact p_end (rv' := rv) (rk' := rk) (by assumption) (by assumption) (by walk_at "Mine.mem") (by intro q hq; walk_at "Mine.mem") (by intro q hq; walk_at "Mine.mem") hoff List.mem_cons_self (by omega)
                (by rw [hnx, src_snoc_del]; exact pre_more hpre (getD_eq (by assumption) (by assumption))) (by rw [hnx, src_snoc_del, List.length_append, List.length_singleton, Int.natCast_add]; rfl) (by intro z z1 z2; simp only [if_neg z1, if_neg z2])
        | add =>
          have hT9 : (TD, tupO [.str (PySem.Str.ofString "add") t1, .str l t2] n9) ∈ (D, listOf dv.toArray dk) :: tl := hTD'
          clear hTD'
          k_steps
          all_goals first
            | exact p_end (rv' := rv ++ [.str l t2]) (rk' := rk + 1) (by assumption) (by assumption) (mem_updL_self (o₀ := listOf rv.toArray rk) (by walk_at "Mine.mem")) (by intro q hq; exact mem_updL (by walk_at "Mine.mem") (hRne q hq)) (by intro q hq; exact mem_updL (by walk_at "Mine.mem") (own_ne hoff hq)) hoff List.mem_cons_self (by rw [List.length_append, List.length_singleton]; omega)
                (by rw [hnx, src_snoc_add]; exact hpre) (by rw [hnx, src_snoc_add]; rfl) (by intro z z1 z2; simp only [if_neg z1, if_neg z2])
      case done =>
        clear F3 N3
        intro m₁ nx h tk hJ F1 N1
        obtain ⟨tok, rv, rk, rfl, hrv, hpre, e1, e2⟩ := hJ
        rw [hD.length, List.take_length, hsrc] at hpre e1
        rw [map_out1 e1 e2] at F1
        clear e1 e2
        have hpl : la.length ≤ 100 := la9
        k_steps
        · refine leave_true (true_ne (by rintro rfl; rename (_ ≠ _) => q9; exact q9 rfl)) (by assumption) (by assumption) (by assumption) (fun F5 N5 => ?_)
          exact ret _ _ F5 (fun q hq => N5 q (by (have h9 := hsub q hq); walk_at "Mine.mem"))
        · have hlen : la.length = lo.length := by omega
          have heq := pre_all hpre hlen
          rename News _ _ _ _ => N6
          rename Fr _ _ _ _ => F6
          refine leaveK_ F6 N6 (fun F7 N7 => ?_)
          clear F6 N6
          dsimp only
          k_steps
          refine leave_true (false_eq heq) (by assumption) (by assumption) KtsTurn.refl (fun F5 N5 => ?_)
          exact ret _ _ F5 (fun q hq => N5 q (by (have h9 := hsub q hq); walk_at "Mine.mem"))
set_option maxRecDepth 100000 in
set_option maxHeartbeats 8000000 in
theorem cell_spec {w : World} {p : Program} {loose : List PySem.Str} {mean : ExcName → Option Value} {mg mb : PySem.Str → Option Value} {dp un : Nat} {gd : Option (List Code)} {cn : PySem.Str} {cs : Scope} {fa : Addr} {ccd : Value} {cl : List (PySem.Str × Addr)} {outer : List Env} {A₀ : Around} {base h₀ : Heap} {L : Addr} {m : PySem.Str → Option Value} {news : List (Addr × Obj)} {s : Shared}
    {sc : Addr} {sv : List Value} {ns : List Int} {i : Int} {ts : Tok} {Q E : Value → Shared → Prop}
    (B : Below A₀ base outer h₀) (F : Fr h₀ L s.heap m) (X : (hd.heap_39 w.params).In h₀) (N : News h₀ L s.heap news) (T : Top p loose mean mg mb h₀) (hk : cs.kind = .function)
    (hsc : h₀.IsList sc sv.toArray) (hI : IntsAre sv ns) (hlay : (PyData.list (List.map PyData.int ns)).layable0 = true) (h63 : ¬ (63 : Int) < (ns.length : Int)) (hs0 : 0 ≤ i) (hdp : dp < 900)
    (ret : ∀ v t' h' tk', Fr h₀ L h' m → News h₀ L h' news → Q (.int v t') { s with heap := h', toks := tk' }) :
    wpAny (model PySem.Challenge.rw_k17_0038.row.prog w) (ktrTop dp un gd cn cs L fa ccd cl outer) (call (.ref 66) [.ref sc, .int i ts]) Q E s := by
  w_top off
  revert X
  k_fill
  intro X
  refine wpAny_call ?_
  refine' code_def B F X N T rfl rfl hk ?k6 ?k7 ?k8 ?k9 ?kB ?_ ?c2 ?c3 ?c4 ?c5
  case k6 => k_is
  case k7 => k_is
  case k8 => simp only [recursionLimit]; omega
  case k9 => exact BindsTo.of_eq rfl
  case kB => exact locs rfl
  case c2 => exact rfl
  case c3 => exact rfl
  case c4 => exact rfl
  case c5 => decide
  intro g L' h' FG F' N' B' X' T'
  have hsc' : g.IsList sc sv.toArray := Fr.lst FG hsc
  clear F N T X
  dsimp only
  try k_fold
  k_steps
  all_goals (refine leaveK_ (by assumption) (by assumption) (fun F5 N5 => ?_); exact ret _ _ _ _ F5 N5)
set_option maxRecDepth 100000 in
set_option maxHeartbeats 8000000 in
theorem text_spec {w : World} {p : Program} {loose : List PySem.Str} {mean : ExcName → Option Value} {mg mb : PySem.Str → Option Value} {cn : PySem.Str} {cs : Scope} {fa : Addr} {ccd : Value} {h₀ : Heap} {L : Addr} {m : PySem.Str → Option Value} {news : List (Addr × Obj)} {s : Shared}
    {sc : Addr} {sv : List Value} {ns : List Int} {start : Int} {ts : Tok} {Q E : Value → Shared → Prop}
    (B : Below callerA h₀ [] h₀) (F : Fr h₀ L s.heap m) (X : (hd.heap_39 w.params).In h₀) (N : News h₀ L s.heap news) (T : Top p loose mean mg mb h₀) (hk : cs.kind = .function)
    (hsc : h₀.IsList sc sv.toArray) (hI : IntsAre sv ns) (hlay : (PyData.list (List.map PyData.int ns)).layable0 = true) (h63 : ¬ (63 : Int) < (ns.length : Int)) (hs0 : 0 ≤ start) (hs1 : start ≤ 100)
    (ret : ∀ D vs ls h' tk', Fr h₀ L h' m → News h₀ L h' ((D, listOf (List.toArray vs) vs.length) :: news) → TL vs ls 4 → Q (.ref D) { s with heap := h', toks := tk' }) :
    wpAny (model PySem.Challenge.rw_k17_0038.row.prog w) (callerA.deeper (envOf cn cs L fa ccd)) (call (.ref 71) [.ref sc, .int start ts]) Q E s := by
  w_top off
  revert X
  k_fill
  intro X
  refine wpAny_call ?_
  refine' code_defC B F X N T rfl rfl hk ?k6 ?k7 ?k8 ?k9 ?kB ?kD ?_ ?c2 ?c3 ?c4
  case k6 => k_is
  case k7 => k_is
  case k8 => k_room
  case k9 => exact BindsTo.of_eq rfl
  case kB => exact rfl
  case kD => decide +kernel
  case c2 => exact rfl
  case c3 => exact rfl
  case c4 => exact rfl
  intro g L' h' tk' cells' FG F' N' Y' B' X' T' l1
  have hY := CellsAre.two Y'
  obtain ⟨o1, o2, hE, d1, d2⟩ := hY
  subst hE
  clear Y'
  have dS : o2.data = .cell (some (.ref sc)) := d2.trans rfl
  have dT : o1.data = .cell (some (.int start ts)) := d1.trans rfl
  clear d1 d2
  simp only [List.cons_append, List.nil_append] at N'
  have hsc' : g.IsList sc sv.toArray := Fr.lst FG hsc
  clear F N T X
  dsimp only
  try k_fold
  k_steps
  case _ =>
    rename Fr _ _ _ _ => F3
    rename News _ _ _ _ => N3
    refine cell_spec B' F3 X' N3 T' rfl hsc' hI hlay h63 hs0 (by simp only [depth_deeper, depth_caller]; decide) ?_
    clear F3 N3
    intro v t1 h2 tk2 F2 N2
    have f1 := fmod_in v (k := 5) (by decide)
    k_steps
    case _ =>
      refine LCg.CompSrc.range (by rfl) (by k_asm) (by k_asm) (by assumption) (small_one (by omega) (by omega) (by omega) (by omega)) (rangeSize_nat _ _) (by rw [PySem.sizeLine_eq]; omega) ?_
      intro g'
      refine comp_texts ?turn ?fin
      case turn =>
        intro k t I oI C oC D m₂ ys h tk E' hk0 hk1 hC hx F4 N4 off ne
        k_steps
        case _ =>
          rename Fr _ _ _ _ => F3
          rename News _ _ _ _ => N3
          refine cell_spec B' F3 X' N3 T' rfl hsc' hI hlay h63 (by omega) (by simp only [depth_deeper, depth_caller]; decide) ?_
          clear F3 N3
          intro v2 t2 h3 tk3 F5 N5
          have f2 := fmod_in v2 (k := 5) (by decide)
          k_steps
          exact comp_end_text (extra := []) (by assumption) (by assumption) off (by assumption)
      case fin =>
        intro ys ls hT hl
        unfold LCg.FinE
        intro D h3 tk3 F4 N4 o4
        k_steps
        rename News _ _ _ _ => N6
        rename Fr _ _ _ _ => F6
        refine leaveK_ (news' := (D, listOf ys.toArray ys.length) :: news) F6 (fun q hq => N6 q (by
          rcases List.mem_cons.mp hq with rfl | hq
          · exact List.mem_cons_self
          · exact List.mem_cons_of_mem _ (List.mem_cons_of_mem _ (List.mem_cons_of_mem _ hq)))) (fun F5 N5 => ?_)
        exact ret D ys ls _ _ F5 N5 ⟨hT.sa1, by have := hT.le1; omega, hT.ok1⟩
end Mine
local macro_rules | `(tactic| k_steps) => `(tactic| repeat' (first | (k_unfold; (try dsimp only)) | (k_end; wrow_close) | walk1 | (dsimp only; walk1) | (leave1; walk_say "STEP leave1"; try dsimp only) | fail "no step"))
local macro_rules | `(tactic| walk_at "call ref cons nil") => `(tactic| (k_here; k_dflt (refine' Mine.refused_spec ?k1 ?k2 ?k3 ?k4 ?k5 ?k6 ?a1 ?a2 ?a3 ?s1 ?s2 ?s3 ?l1 ?l2 ?l3 ?o1 ?o2 ?_; (case k2 => k_asm); (case k1 => k_asm); (case k3 => k_asm); (case k4 => k_asm); (case k5 => k_asm); (case k6 => exact rfl); (case a1 => walk_at "Mine.mem"); (case a2 => walk_at "Mine.mem"); (case a3 => walk_at "Mine.mem"); (case s1 => exact Mine.TL.sa1 (by assumption)); (case s2 => exact Mine.TL.sa1 (by assumption)); (case s3 => exact Mine.TL.sa1 (by assumption)); (case l1 => exact Nat.le_trans (Mine.TL.le1 (by assumption)) (by decide)); (case l2 => exact Nat.le_trans (Mine.TL.le1 (by assumption)) (by decide)); (case l3 => exact Nat.le_trans (Mine.TL.le1 (by assumption)) (by decide)); (case o1 => exact Mine.TL.ok1 (by assumption)); (case o2 => exact Mine.TL.ok1 (by assumption))); intro h9 tk9 F9 N9; (try k_sweep)))
local macro_rules | `(tactic| walk_at "call ref cons nil") => `(tactic| (k_here; k_dflt (refine' Mine.cell_spec ?k1 ?k2 ?k3 ?k4 ?k5 ?k6 ?k7 ?k8 ?k9 ?ka ?kb ?kc ?_; (case k2 => k_asm); (case k1 => k_asm); (case k3 => k_asm); (case k4 => k_asm); (case k5 => k_asm); (case k6 => exact rfl); (case k7 => k_asm); (case k8 => k_asm); (case k9 => assumption); (case ka => omega); (case kb => omega); (case kc => (simp only [depth_deeper, depth_caller]; decide))); intro v9 t9 h9 tk9 F9 N9; (try k_sweep); (have f5 := Mine.fmod_in v9 (k := 5) (by decide)); (have f8 := Mine.fmod_in v9 (k := 8) (by decide))))
local macro_rules | `(tactic| walk_at "call ref cons nil") => `(tactic| (k_here; k_dflt (refine' Mine.text_spec ?k1 ?k2 ?k3 ?k4 ?k5 ?k6 ?k7 ?k8 ?k9 ?ka ?kb ?kc ?_; (case k2 => k_asm); (case k1 => k_asm); (case k3 => k_asm); (case k4 => k_asm); (case k5 => k_asm); (case k6 => exact rfl); (case k7 => k_asm); (case k8 => k_asm); (case k9 => assumption); (case ka => omega); (case kb => omega); (case kc => omega)); intro D9 vs9 ls9 h9 tk9 F9 N9 T9; (try k_sweep)))
local macro_rules | `(tactic| walk_at "eval Call") => `(tactic| (k_here; k_dflt (refine Call_ ?_)))
local macro_rules | `(tactic| walk_at "call builtin:len") => `(tactic| (k_here; (with_reducible show wpAny _ _ (call (Value.builtin "len") [Value.ref _]) _ _ _); k_dflt (refine Mine.len_tl (by k_asm) (by walk_at "Mine.mem") (by assumption) (by decide) ?_); intro _ _))
local macro_rules | `(tactic| walk_at "subscriptTail Name Slice ref ref") => `(tactic| (k_here; (with_reducible show wpAny _ _ (subscriptTail _ (PySem.Expr.Slice _ _ none _) (Value.ref _) (Value.ref _)) _ _ _); k_dflt (refine' Mine.cut_tl ?F ?N ?a ?p ?q ?T ?z ?_ ?s ?t; (case F => k_asm); (case N => k_asm); (case a => walk_at "Mine.mem"); (case p => kmk_part); (case q => kmk_part); (case T => assumption); (case s => with_unfolding_all rfl); (case t => kmk_pure); (case z => decide)); intro D9 us9 is9 h9 F9 N9 T9; (try k_sweep)))
local macro_rules | `(tactic| walk_at "subscriptTail Name Slice ref ref") => `(tactic| (k_here; (with_reducible show wpAny _ _ (subscriptTail _ (PySem.Expr.Slice none none none _) (Value.ref _) (Value.ref _)) _ _ _); k_dflt (refine' Mine.copy_tl ?F ?N ?a ?p ?q ?T ?z ?_ ?s ?t; (case F => k_asm); (case N => k_asm); (case a => walk_at "Mine.mem"); (case p => kmk_part); (case q => kmk_part); (case T => assumption); (case s => with_unfolding_all rfl); (case t => kmk_pure); (case z => decide)); intro D9 h9 F9 N9; (try k_sweep)))
local macro_rules | `(tactic| walk_at "binaryOp Add ref ref") => `(tactic| (k_here; (with_reducible show wpAny _ _ (binaryOp _ (Value.ref _) (Value.ref _)) _ _ _); k_dflt (refine' Mine.add_tl ?k1 ?k2 ?k3 ?k4 ?T1 ?T2 ?k5 ?_; (case k2 => k_asm); (case k1 => k_asm); (case k3 => walk_at "Mine.mem"); (case k4 => walk_at "Mine.mem"); (case T1 => first | assumption | exact Mine.TL.one (by assumption)); (case T2 => first | assumption | exact Mine.TL.one (by assumption)); (case k5 => decide)); intro D9 us9 is9 h9 F9 N9 T9; (try k_sweep)))
local macro_rules | `(tactic| walk_at "compareOp NotEq ref ref") => `(tactic| (k_here; (with_reducible show wpAny _ _ (compareOp CmpOp.NotEq (Value.ref _) (Value.ref _)) _ _ _); k_dflt (refine' Mine.ne_tl ?k1 ?k2 ?k3 ?k4 ?k7 ?_; (case k1 => k_asm); (case k2 => walk_at "Mine.mem"); (case k3 => walk_at "Mine.mem"); (case k4 => assumption); (case k7 => (simp only [units_deeper, Around.mark_units, units_caller]; decide)))))
set_option maxRecDepth 100000 in
set_option maxHeartbeats 8000000 in
theorem PySem.Challenge.cw_k17_0038_holds : PySem.Challenge.rw_k17_0038.Holds := by
  refine Mine.hd ?_
  w_strict (k_go0; (all_goals try k_fold); k_steps)
