import PyProof.Rows.All
import Wide.All
import OpenK.AllK
import Wide.FinOn
import PySem.Challenge.RW_on0063_01
open PySem PySem.W PyProof.Rows
set_option Elab.async false
set_option maxRecDepth 100000
set_option linter.all false
namespace Mine
set_option maxRecDepth 100000 in
set_option maxHeartbeats 8000000 in
set_option synthInstance.maxSize 1 in
open_top hd for PySem.Challenge.rw_on0063_01
end Mine
namespace Mine
/-- what a call of the def at f with these arguments over this ledger gives -/
def Spec (prog : Program) (w : World) (mean : ExcName → Option Value) (mg mb : Str → Option Value) (lv : Nat) (f : Addr) (args : List Value) (news : List (Addr × Obj)) (post : Value → List (Addr × Obj) → Prop) : Prop :=
  ∀ (dp un : Nat) (gd : Option (List Code)) (cn : Str) (cs : Scope) (a : Addr) (ccd : Value) (cl : List (Str × Addr)) (outer : List Env) (A₀ : Around) (base h₀ : Heap) (L : Addr) (m : Str → Option Value) (s : Shared)
    (Q E : Value → Shared → Prop),
    Below A₀ base outer h₀ → Fr h₀ L s.heap m → (Mine.hd.heap_39 w.params).In h₀ → News h₀ L s.heap news → Top Mine.hd.view_39 (looseW Mine.hd.view_39 []) mean mg mb h₀ → cs.kind = .function → dp + 10 * lv < recursionLimit → un + 100 * lv < cLine →
    (∀ r news' h' tk', Fr h₀ L h' m → News h₀ L h' news' → post r news' → Q r { s with heap := h', toks := tk' }) →
    wpAny (model prog w) (ktrTop dp un gd cn cs L a ccd cl outer) (call (.ref f) args) Q E s
theorem Spec.use {prog : Program} {w : World} {mean : ExcName → Option Value} {mg mb : Str → Option Value} {lv : Nat} {f : Addr} {args : List Value} {news : List (Addr × Obj)} {post : Value → List (Addr × Obj) → Prop}
    {dp un : Nat} {gd : Option (List Code)} {cn : Str} {cs : Scope} {a : Addr} {ccd : Value} {cl : List (Str × Addr)} {outer : List Env} {A₀ : Around} {base h₀ : Heap} {L : Addr} {m : Str → Option Value} {s : Shared}
    {Q E : Value → Shared → Prop} (S : Spec prog w mean mg mb lv f args news post)
    (B : Below A₀ base outer h₀) (F : Fr h₀ L s.heap m) (X : (Mine.hd.heap_39 w.params).In h₀) (N : News h₀ L s.heap news) (T : Top Mine.hd.view_39 (looseW Mine.hd.view_39 []) mean mg mb h₀) (hk : cs.kind = .function) (hd : dp + 10 * lv < recursionLimit) (hu : un + 100 * lv < cLine)
    (ret : ∀ r news' h' tk', Fr h₀ L h' m → News h₀ L h' news' → post r news' → Q r { s with heap := h', toks := tk' }) :
    wpAny (model prog w) (ktrTop dp un gd cn cs L a ccd cl outer) (call (.ref f) args) Q E s := S _ _ _ _ _ _ _ _ _ _ _ _ _ _ _ _ _ B F X N T hk hd hu ret
theorem Spec.mono {prog : Program} {w : World} {mean : ExcName → Option Value} {mg mb : Str → Option Value} {lv : Nat} {f : Addr} {args : List Value} {news news₁ : List (Addr × Obj)} {post post₁ : Value → List (Addr × Obj) → Prop}
    (S : Spec prog w mean mg mb lv f args news₁ post₁) (hs : ∀ p ∈ news₁, p ∈ news) (hp : ∀ r n₁, post₁ r n₁ → ∃ n₂, (∀ p ∈ n₂, p ∈ n₁) ∧ post r n₂) : Spec prog w mean mg mb lv f args news post := by
  intro dp un gd cn cs a ccd cl outer A₀ base h₀ L m s Q E B F X N T hk hd hu hret
  refine S _ _ _ _ _ _ _ _ _ _ _ _ _ _ _ _ _ B F X (fun p h => N p (hs p h)) T hk hd hu fun r n₁ h' tk' F' N' h => ?_
  obtain ⟨n₂, hs₂, h₂⟩ := hp r n₁ h
  exact hret r n₂ h' tk' F' (fun p hp => N' p (hs₂ p hp)) h₂
end Mine
namespace Mine
theorem news_sub {h₀ h : Heap} {L : Addr} {a b : List (Addr × Obj)} (N : News h₀ L h a) (hs : ∀ p ∈ b, p ∈ a) : News h₀ L h b := fun p hp => N p (hs p hp)
theorem sub1 {a : Addr × Obj} {news : List (Addr × Obj)} : ∀ q ∈ news, q ∈ a :: news := fun _ h => .tail _ h
theorem sub2 {a b : Addr × Obj} {news : List (Addr × Obj)} : ∀ q ∈ news, q ∈ a :: b :: news := fun _ h => .tail _ (.tail _ h)
theorem sub3 {a b c : Addr × Obj} {news : List (Addr × Obj)} : ∀ q ∈ news, q ∈ a :: b :: c :: news := fun _ h => .tail _ (.tail _ (.tail _ h))
theorem sub4 {a b c d : Addr × Obj} {news : List (Addr × Obj)} : ∀ q ∈ news, q ∈ a :: b :: c :: d :: news := fun _ h => .tail _ (.tail _ (.tail _ (.tail _ h)))
theorem notin_ne {z x : Str} {l : List Str} (hz : l.contains z = false) (hx : l.contains x = true) : z ≠ x := fun e => by rw [e, hx] at hz; cases hz
theorem cons_sub {p : Addr × Obj} {a b : List (Addr × Obj)} (h : ∀ q ∈ a, q ∈ b) : ∀ q ∈ p :: a, q ∈ p :: b := fun q hq => (List.mem_cons.mp hq).elim (fun e => e ▸ .head _) fun hq => .tail _ (h q hq)
theorem lt_sub {a b : List (Addr × Obj)} {d : Addr} (h : ∀ p ∈ b, p.1 < d) (hs : ∀ p ∈ a, p ∈ b) : ∀ p ∈ a, p.1 < d := fun p hp => h p (hs p hp)
abbrev tupO (vs : List Value) (n : Nat) : Obj := { cls := .type "tuple", data := .seq vs.toArray n }
inductive PairIs (news : List (Addr × Obj)) : Value → Int × Value → Prop
  | mk {a : Addr} {n : Int} {tk : Tok} {x : Value} {k : Nat} : (a, tupO [.int n tk, x] k) ∈ news → PairIs news (.ref a) (n, x)
inductive PlistIs (news : List (Addr × Obj)) : List Value → List (Int × Value) → Prop
  | nil : PlistIs news [] []
  | cons {v : Value} {p : Int × Value} {vs : List Value} {ps : List (Int × Value)} : PairIs news v p → PlistIs news vs ps → PlistIs news (v :: vs) (p :: ps)
theorem PlistIs.length {news : List (Addr × Obj)} {vs : List Value} {ps : List (Int × Value)} (h : PlistIs news vs ps) : vs.length = ps.length := by
  induction h with
  | nil => rfl
  | cons _ _ ih => rw [List.length_cons, List.length_cons, ih]
theorem PairIs.mono {news news' : List (Addr × Obj)} {v : Value} {p : Int × Value} (h : PairIs news v p) (hs : ∀ q ∈ news, q ∈ news') : PairIs news' v p := by
  cases h with
  | mk h => exact .mk (hs _ h)
theorem PlistIs.mono {news news' : List (Addr × Obj)} {vs : List Value} {ps : List (Int × Value)} (h : PlistIs news vs ps) (hs : ∀ q ∈ news, q ∈ news') : PlistIs news' vs ps := by
  induction h with
  | nil => exact .nil
  | cons h _ ih => exact .cons (h.mono hs) ih
theorem PlistIs.cons' {news : List (Addr × Obj)} {q : Addr × Obj} {vs : List Value} {ps : List (Int × Value)} (h : PlistIs news vs ps) : PlistIs (q :: news) vs ps := h.mono fun _ hq => .tail _ hq
theorem PlistIs.get {news : List (Addr × Obj)} {vs : List Value} {ps : List (Int × Value)} (h : PlistIs news vs ps) : ∀ {i : Nat} {v : Value}, vs[i]? = some v → ∃ a n tk x k, v = .ref a ∧ (a, tupO [.int n tk, x] k) ∈ news ∧ ps[i]? = some (n, x) := by
  induction h with
  | nil => intro i v e; simp at e
  | cons h _ ih =>
    intro i v e
    cases i with
    | zero =>
      cases h with
      | mk h =>
        simp at e
        subst e
        exact ⟨_, _, _, _, _, rfl, h, rfl⟩
    | succ i => exact ih (by simpa using e)
section
variable {prog : Program} {w : World} {A : Around} {E : Value → Shared → Prop} {s : Shared} {h₀ : Heap} {L : Addr} {m : Str → Option Value} {news : List (Addr × Obj)}
theorem lenL {l : Addr} {vs : List Value} {n k : Nat} {Q : Value → Shared → Prop} (N : News h₀ L s.heap news) (hm : (l, listOf vs.toArray n) ∈ news) (hk : vs.length = k) (hz : k ≤ 16384)
    (h : Q (.int (k : Int) (s.toks + 1)) { s with toks := s.toks + 1 + 1 }) : wpAny (model prog w) A (call (.builtin "len") [.ref l]) Q E s :=
  kun_lenL (News.isList N hm) (by subst hk; simp) (by omega) h
theorem item0 {value slice : Expr} {t : Addr} {v : Value} {xs : List Value} {n : Nat} {u : Tok} {Q : Value → Shared → Prop} (N : News h₀ L s.heap news) (hm : (t, tupO (v :: xs) n) ∈ news) (h : Q v s)
    (hs : subscripted slice false (.ref t) (.int 0 u) = operate [.ref t, .int 0 u] (getItem (.ref t) (.int 0 u)) := by with_unfolding_all rfl) :
    wpAny (model prog w) A (subscriptTail value slice (.ref t) (.int 0 u)) Q E s :=
  item_tupleT (l := v :: xs) (News.isTup N hm) (by decide) (by decide) (j := 0) (by simp [seqIndex?]) rfl h hs
theorem tupDrop1 {value slice : Expr} {t : Addr} {v : Value} {xs : List Value} {n : Nat} {u : Tok} {Q : Value → Shared → Prop} (F : Fr h₀ L s.heap m) (N : News h₀ L s.heap news) (hm : (t, tupO (v :: xs) n) ∈ news) (hz : xs.length ≤ 1000)
    (h : ∀ D h', Fr h₀ L h' m → News h₀ L h' ((D, tupO xs 0) :: news) → (∀ p ∈ news, p.1 < D) → Q (.ref D) { s with heap := h' })
    (hs : subscripted slice false (.ref t) (.ref s.heap.objs.size) = operate [.ref s.heap.objs.size, .ref t] (getItem (.ref t) (.ref s.heap.objs.size)) := by with_unfolding_all rfl)
    (hg : ∀ r, letTemporaryGo value (.ref t) r = pure () := by intro _; with_unfolding_all rfl) :
    wpAny (model prog w) A (subscriptTail value slice (.ref t) (.ref s.heap.objs.size)) Q E { s with heap := s.heap.push { cls := .type "slice", data := .fields #[.int 1 u, .none, .none] } } := by
  refine slice_tuple_from (a := 1) (items := (v :: xs).toArray) F N (News.isTup N hm) (Nat.le_refl _) (by simp) (fun h' F' N' => h _ h' F' ?_ fun p hp => Nat.lt_succ_of_lt (Heap.lt_size (N p hp).1)) hs hg (by rw [sizeLine_eq]; simp; omega)
  simpa using N'
theorem itemV {value slice : Expr} {l : Addr} {vs : List Value} {n : Nat} {k : Int} {u : Tok} {Q : Value → Shared → Prop} (N : News h₀ L s.heap news) (hm : (l, listOf vs.toArray n) ∈ news) (h0 : 0 ≤ k) (hk : k < (vs.length : Int)) (hz : vs.length ≤ 16384)
    (h : ∀ v, v ∈ vs → Q v s)
    (hs : subscripted slice false (.ref l) (.int k u) = operate [.ref l, .int k u] (getItem (.ref l) (.int k u)) := by with_unfolding_all rfl) :
    wpAny (model prog w) A (subscriptTail value slice (.ref l) (.int k u)) Q E s := by
  have hlt : k.toNat < vs.length := by omega
  exact tail_any (News.isList N hm).typeIs slot_list_getitem.lookup (wpAny_getItem_list (x := vs[k.toNat]) (News.isList N hm) h0 (by omega) (by simp [hlt]) (h _ (List.getElem_mem hlt))) hs
theorem UpdF.upd {d : Addr} {o : Obj} : ∀ {l : List (Addr × Obj)} {g : Obj → List (Addr × Obj)}, UpdF d o l g → ∀ o', Upd d o o' l (g o')
  | _, _, .head h, o' => .head h
  | _, _, .tail h r, o' => .tail h (UpdF.upd r o')
theorem cut_some : ∀ {l : List Value} {k : Nat}, k < l.length → ∃ p y q, kl_cut l k = some (p, y, q)
  | [], _, h => absurd h (Nat.not_lt_zero _)
  | x :: r, 0, _ => ⟨[], x, r, rfl⟩
  | x :: r, k + 1, h => by
    obtain ⟨p, y, q, e⟩ := cut_some (l := r) (k := k) (Nat.lt_of_succ_lt_succ h)
    exact ⟨x :: p, y, q, by unfold kl_cut; rw [e]⟩
theorem ints_cut : ∀ {p q : List Value} {y : Value} {ns : List Int}, IntsAre (p ++ y :: q) ns → ∃ n t ms, y = .int n t ∧ n ∈ ns ∧ IntsAre (p ++ q) ms ∧ ms.length + 1 = ns.length ∧ ∀ z ∈ ms, z ∈ ns
  | [], q, y, ns, h => by
    cases h with
    | cons n t h => exact ⟨n, t, _, rfl, .head _, h, rfl, fun z hz => .tail _ hz⟩
  | x :: p, q, y, ns, h => by
    cases h with
    | cons n t h =>
      obtain ⟨n', t', ms, e, h1, h2, h3, h4⟩ := ints_cut h
      refine ⟨n', t', n :: ms, e, .tail _ h1, .cons n t h2, by simp [← h3], fun z hz => ?_⟩
      rcases List.mem_cons.mp hz with rfl | hz
      · exact .head _
      · exact .tail _ (h4 z hz)
theorem popI {D : Addr} {g : Obj → List (Addr × Obj)} {vs : List Value} {ns : List Int} {n : Nat} {i : Int} {u : Tok} {Q : Value → Shared → Prop} (F : Fr h₀ L s.heap m) (N : News h₀ L s.heap news) (U : UpdF D (listOf vs.toArray n) news g) (hi : IntsAre vs ns)
    (h0 : 0 ≤ i) (h1 : i < (ns.length : Int)) (hz : ns.length ≤ 1000)
    (h : ∀ h' y t vs' ns', Fr h₀ L h' m → News h₀ L h' (g (listOf vs'.toArray (n + 1))) → IntsAre vs' ns' → y ∈ ns → ns'.length + 1 = ns.length → (∀ z ∈ ns', z ∈ ns) → Q (.int y t) { s with heap := h' }) :
    wpAny (model prog w) A (call (.builtin "list.pop") [.ref D, .int i u]) Q E s := by
  have hlen := hi.length
  have hlt : i.toNat < vs.length := by omega
  obtain ⟨p, y, q, e⟩ := cut_some hlt
  obtain ⟨e1, e2⟩ := kl_cut_spec e
  subst e1
  obtain ⟨n', t', ms, rfl, h2, h3, h4, h5⟩ := ints_cut hi
  refine kl_popAt (k := i.toNat) (p := p) (q := q) (y := .int n' t') F N ?_ ?_ ?_ (UpdF.upd U _) ?_ fun h' F' N' => h h' n' t' _ ms F' N' h3 h2 h4 h5
  · unfold Builtin.List.listFitsIndex
    simp
    omega
  · have hs : (p ++ Value.int n' t' :: q).toArray.size = ns.length := by rw [List.size_toArray]; exact hlen
    rw [hs]
    unfold seqIndex?
    have h9 : ¬ i < 0 := by omega
    simp [h9, h0, h1]
  · simpa using e
  · rw [sizeLine_eq]; simp at hlen ⊢; omega
/-- an item of a list of pairs -/
theorem itemP {value slice : Expr} {l : Addr} {vs : List Value} {n : Nat} {ps : List (Int × Value)} {k : Int} {u : Tok} {Q : Value → Shared → Prop} (N : News h₀ L s.heap news) (hm : (l, listOf vs.toArray n) ∈ news)
    (hp : PlistIs news vs ps) (h0 : 0 ≤ k) (hk : k < (ps.length : Int)) (hz : ps.length ≤ 16384)
    (h : ∀ a i tk x kk, (a, tupO [.int i tk, x] kk) ∈ news → ps[k.toNat]? = some (i, x) → Q (.ref a) s)
    (hs : subscripted slice false (.ref l) (.int k u) = operate [.ref l, .int k u] (getItem (.ref l) (.int k u)) := by with_unfolding_all rfl) (hg : ∀ r, letTemporaryGo value (.ref l) r = pure () := by intro _; with_unfolding_all rfl) :
    wpAny (model prog w) A (subscriptTail value slice (.ref l) (.int k u)) Q E s := by
  have hlen := hp.length
  have hlt : k.toNat < vs.length := by omega
  obtain ⟨a, i, tk, x, kk, e, hmem, hps⟩ := hp.get (List.getElem?_eq_getElem hlt)
  refine item_list (x := vs[k.toNat]) (News.isList N hm) h0 (by omega) (by simp [hlt]) ?_ hs hg
  rw [e]
  exact h a i tk x kk hmem hps
/-- an item of a list of pairs at a place whose pair is known -/
theorem itemQ {value slice : Expr} {l : Addr} {vs : List Value} {n : Nat} {ps : List (Int × Value)} {i : Nat} {j : Int} {y : Value} {u : Tok} {Q : Value → Shared → Prop} (N : News h₀ L s.heap news) (hm : (l, listOf vs.toArray n) ∈ news)
    (hp : PlistIs news vs ps) (hx : ps[i]? = some (j, y)) (hz : ps.length ≤ 16384)
    (h : ∀ a tk kk, (a, tupO [.int j tk, y] kk) ∈ news → Q (.ref a) s)
    (hs : subscripted slice false (.ref l) (.int (i : Int) u) = operate [.ref l, .int (i : Int) u] (getItem (.ref l) (.int (i : Int) u)) := by with_unfolding_all rfl) (hg : ∀ r, letTemporaryGo value (.ref l) r = pure () := by intro _; with_unfolding_all rfl) :
    wpAny (model prog w) A (subscriptTail value slice (.ref l) (.int (i : Int) u)) Q E s := by
  have hi := (List.getElem?_eq_some_iff.mp hx).1
  refine itemP N hm hp (by omega) (by omega) hz (fun a i' tk x' kk hmem e => ?_) hs hg
  simp only [Int.toNat_natCast] at e
  rw [hx] at e
  cases e
  exact h a tk kk hmem
end
section
variable {prog : Program} {w : World} {A : Around} {E : Value → Shared → Prop} {s : Shared} {env : Env} {h₀ : Heap} {x : Str} {body : List Stmt} {Q : Flow → Shared → Prop}
theorem frame_stay {x : Str} {m₁ m₀ : Str → Option Value} {v : Option Value} (hm : ∀ z, z ≠ x → m₁ z = m₀ z) : (fun y => if y = x then v else m₁ y) = fun y => if y = x then v else m₀ y := by
  funext z
  by_cases h1 : z = x
  · simp [h1]
  · simp only [if_neg h1]; exact hm z h1
/-- a loop over range(n) that changes nothing but its own name -/
theorem range_stay {r : Addr} {b₀ : Int} {t₀ u₀ v₀ : Tok} {n : Nat} {m₀ : Str → Option Value} {news : List (Addr × Obj)} (P : Nat → Prop)
    (hh : A.handled = none) (hr : IsRange s.heap r 0 b₀ 1 t₀ u₀ v₀) (hb : b₀ = (n : Int)) (hz : n ≤ 16384) (F : Fr h₀ env.locals s.heap m₀) (N : News h₀ env.locals s.heap news) (hp : P 0)
    (turn : ∀ (i : Nat) t h tk own, i < n → P i → OwnOff own (news.map (·.1)) → Fr h₀ env.locals h (fun y => if y = x then some (.int (i : Int) t) else m₀ y) → News h₀ env.locals h (news ++ own) →
      wpAny (model prog w) A (execs body env) (InvPostN h₀ env.locals (fun m' nx => nx = news ∧ (∀ z, z ≠ x → m' z = m₀ z) ∧ P (i + 1)) own (news.map (·.1)) { s with heap := h, toks := tk } Q) E { s with heap := h, toks := tk })
    (done : ∀ (u : Str → Option Value) h tk, P n → Fr h₀ env.locals h (fun y => if y = x then u y else m₀ y) → News h₀ env.locals h news → Q .next { s with heap := h, toks := tk }) :
    wpAny (model prog w) A (pyIter (.ref r)) (fun it s₂ => LoopAtV prog w A h₀ env x body Q E it s₂) E s := by
  subst hb
  refine kpr_invN (n := n) (fun i m nx => nx = news ∧ (∀ z, z ≠ x → m z = m₀ z) ∧ P i) hh hr (small_one (by omega) (by omega) (by omega) (by omega)) (by rw [rangeSize_nat]; omega) F N ⟨rfl, fun _ _ => rfl, hp⟩ ?_ ?_
  · rintro i k t m₁ nx h tk own hk hoff ⟨rfl, hm, hP⟩ F₁ N₁
    have hi : i < n := by
      have h9 := (List.getElem?_eq_some_iff.mp hk).1
      simpa [rangeKs] using h9
    have hk' : k = (i : Int) := by
      simp [rangeKs, hi] at hk
      omega
    subst hk'
    rw [frame_stay hm] at F₁
    exact turn i t h tk own hi hP hoff F₁ N₁
  · rintro m₁ nx h tk ⟨rfl, hm, hP⟩ F₁ N₁
    rw [rangeKs_length] at hP
    refine done m₁ h tk hP ?_ N₁
    have e : (fun y => if y = x then m₁ y else m₀ y) = m₁ := by
      funext z
      by_cases h1 : z = x
      · simp [h1]
      · simp only [if_neg h1]; exact (hm z h1).symm
    rw [e]; exact F₁
theorem rstay_end {L : Addr} {P : Prop} {m' m₀ : Str → Option Value} {own news news' : List (Addr × Obj)} {s₁ : Shared} {h' : Heap} {tk : Nat} (F : Fr h₀ L h' m') (N : News h₀ L h' news') (hn : ∀ p ∈ news, p ∈ news') (ho : ∀ p ∈ own, p ∈ news') (hm : ∀ z, z ≠ x → m' z = m₀ z) (hp : P) :
    InvEndN h₀ L (fun m' nx => nx = news ∧ (∀ z, z ≠ x → m' z = m₀ z) ∧ P) own (news.map (·.1)) s₁ { s₁ with heap := h', toks := tk } :=
  InvEndN.intro F N ⟨rfl, hm, hp⟩ rfl hn ho
/-- a loop over range(n), its state an invariant over the frame's map and the ledger -/
theorem range_inv {r : Addr} {b₀ : Int} {t₀ u₀ v₀ : Tok} {n : Nat} {m₀ : Str → Option Value} {news : List (Addr × Obj)} (J : Nat → (Str → Option Value) → List (Addr × Obj) → Prop)
    (hh : A.handled = none) (hr : IsRange s.heap r 0 b₀ 1 t₀ u₀ v₀) (hb : b₀ = (n : Int)) (hz : n ≤ 16384) (F : Fr h₀ env.locals s.heap m₀) (N : News h₀ env.locals s.heap news) (hj : J 0 m₀ news)
    (turn : ∀ (i : Nat) t m₁ nx h tk own, i < n → OwnOff own (nx.map (·.1)) → J i m₁ nx → Fr h₀ env.locals h (fun y => if y = x then some (.int (i : Int) t) else m₁ y) → News h₀ env.locals h (nx ++ own) →
      wpAny (model prog w) A (execs body env) (InvPostG h₀ env.locals (J (i + 1)) own { s with heap := h, toks := tk } Q) E { s with heap := h, toks := tk })
    (done : ∀ m₁ nx h tk, J n m₁ nx → Fr h₀ env.locals h m₁ → News h₀ env.locals h nx → Q .next { s with heap := h, toks := tk }) :
    wpAny (model prog w) A (pyIter (.ref r)) (fun it s₂ => LoopAtV prog w A h₀ env x body Q E it s₂) E s := by
  subst hb
  have hsz : Builtin.Range.rangeSize 0 (n : Int) 1 = (n : Int) := by rw [rangeSize_nat]; omega
  refine wpAny_pyIter_range hr (small_one (by omega) (by omega) (by omega) (by omega)) ?_
  have W : Walks prog w A s.heap.objs.size [s.heap.objs.size] [s.heap.objs.size] n (fun i v => i < n ∧ ∃ t, v = .int (0 + i * 1) t)
      (fun i h => IsRangeIter h s.heap.objs.size (0 + (i : Nat) * 1) ((n : Int) - (i : Nat)) 1) := (Walks.range hh _ 0 1 n).bound
  refine kdr_loop J W (fun _ h => h) (fun _ h => h) ?_ ?_ ?_ ?_ (by show IsRangeIter _ _ _ _ _; rw [hsz]; simpa using Heap.get?_push_size _ rfl) (F.push _) (fun p hp => ⟨Heap.get?_push_of_some _ (N p hp).1, (N p hp).2⟩) hj ?_ done
  · intro i h hi b hb
    rw [List.mem_singleton.mp hb]
    exact ⟨_, hi⟩
  · intro hm
    exact absurd F.ns.lt ((List.mem_singleton.mp hm) ▸ Nat.lt_irrefl _)
  · intro b hb
    rw [List.mem_singleton.mp hb]
    exact next_is_new F
  · intro p hp hI
    exact absurd (Heap.lt_size (N p hp).1) ((List.mem_singleton.mp hI) ▸ Nat.lt_irrefl _)
  · rintro i v m₁ nx h tk own hi ⟨_, t, rfl⟩ hoff hJ F₁ N₁
    have e1 : (0 : Int) + (i : Int) * 1 = (i : Int) := by omega
    rw [e1] at F₁
    exact turn i t m₁ nx h tk own hi hoff hJ F₁ N₁
end
section
variable {prog : Program} {w : World} {A : Around} {E : Value → Shared → Prop} {s : Shared} {env : Env} {h₀ : Heap} {target : Expr} {body : List Stmt} {Q : Flow → Shared → Prop}
theorem frame_st {stored : List Str} {m₁ m₀ : Str → Option Value} (hm : ∀ z, stored.contains z = false → m₁ z = m₀ z) : m₁ = fun z => if stored.contains z then m₁ z else m₀ z := by
  funext z
  by_cases h1 : stored.contains z = true
  · rw [if_pos h1]
  · rw [if_neg h1]; exact hm z (by simpa using h1)
/-- a loop over a list of the ledger; the ledger stays, the frame's names but «stored» stay -/
theorem list_turns {l : Addr} {vs : List Value} {nn : Nat} {m₀ : Str → Option Value} {news : List (Addr × Obj)} (stored : List Str) (P : Nat → Prop)
    (hh : A.handled = none) (hl : (l, listOf vs.toArray nn) ∈ news) (F : Fr h₀ env.locals s.heap m₀) (N : News h₀ env.locals s.heap news) (h0 : P 0)
    (turn : ∀ i v (u : Str → Option Value) h tk own, vs[i]? = some v → P i → OwnOff own (news.map (·.1)) → Fr h₀ env.locals h (fun z => if stored.contains z then u z else m₀ z) → News h₀ env.locals h (news ++ own) →
      wpAny (model prog w) A (assign target env v) (fun _ s₃ => wpAny (model prog w) A (execs body env)
        (InvPostN h₀ env.locals (fun m' nx => nx = news ∧ (∀ z, stored.contains z = false → m' z = m₀ z) ∧ P (i + 1)) own (news.map (·.1)) { s with heap := h, toks := tk } Q) E s₃) E { s with heap := h, toks := tk })
    (done : ∀ (u : Str → Option Value) h tk, P vs.length → Fr h₀ env.locals h (fun z => if stored.contains z then u z else m₀ z) → News h₀ env.locals h news → Q .next { s with heap := h, toks := tk }) :
    wpAny (model prog w) A (pyIter (.ref l)) (fun it s₂ => TurnsAt prog w A h₀ env target body Q E it s₂) E s := by
  have hol : s.heap.get? l = some (listOf vs.toArray nn) := (N _ hl).1
  have hls : s.heap.IsList l vs.toArray := ⟨_, hol, rfl, nn, rfl⟩
  have hne : l ≠ s.heap.objs.size := Nat.ne_of_lt (Heap.lt_size hol)
  refine wpAny_pyIter_list hls ?_
  have W := Walks.list (prog := prog) (w := w) hh s.heap.objs.size l hne vs.toArray
  have hlen : vs.toArray.size = vs.length := by simp
  rw [hlen] at W
  refine ⟨_, _, _, vs.length, _, _, _, m₀, news, (fun i m nx => nx = news ∧ (∀ z, stored.contains z = false → m z = m₀ z) ∧ P i), rfl, KTurns.ofWalks W (fun i v s Q E st q => letGo_listiter st.1 q), ?_, ?_, ?_, ⟨⟨_, Heap.get?_push_size _ rfl, rfl, rfl⟩, hls.at fun o e => Heap.get?_push_of_some _ e⟩, F.push _, (fun p hp => ⟨Heap.get?_push_of_some _ (N p hp).1, (N p hp).2⟩), ⟨rfl, fun _ _ => rfl, h0⟩, ?_, ?_⟩
  · intro hm
    rcases List.mem_cons.mp hm with e | hm
    · exact absurd F.ns.lt (e ▸ Nat.lt_irrefl _)
    · exact (N _ hl).2.1 ((List.mem_singleton.mp hm).symm)
  · intro b hb
    rw [List.mem_singleton.mp hb]
    exact next_is_new F
  · intro p hp hI
    exact absurd (Heap.lt_size (N p hp).1) ((List.mem_singleton.mp hI) ▸ Nat.lt_irrefl _)
  · rintro i v m₁ news₁ hh' tk' own hin hP ⟨rfl, hm, hJ⟩ hoff hown hget hfp hst F₁ N₁
    have hP' : vs[i]? = some v := by simpa using hP
    have hI0 : h₀.get? s.heap.objs.size = none := next_is_new F
    have hI0' : h₀.get? s.heap.objs.size = none := hI0
    obtain ⟨⟨oI, hoI, _⟩, _⟩ := id hst
    have hIown : (s.heap.objs.size, oI) ∈ own.filter fun p => decide (p.1 = s.heap.objs.size) := List.mem_filter.mpr ⟨hfp _ (List.mem_cons.mpr (.inl rfl)) hI0 _ hoI, by simp⟩
    have hsep : OwnOff (own.filter fun p => decide (p.1 = s.heap.objs.size)) (news₁.map (·.1)) := by
      intro p hp b hb e
      obtain ⟨q, hq, rfl⟩ := List.mem_map.mp hb
      have h1 : p.1 = s.heap.objs.size := by simpa using (List.mem_filter.mp hp).2
      exact hoff q hq (List.mem_singleton.mpr (e ▸ h1))
    have N₂ : News h₀ env.locals hh' (news₁ ++ own.filter fun p => decide (p.1 = s.heap.objs.size)) := fun p hp => N₁ p ((List.mem_append.mp hp).elim (fun h => List.mem_append.mpr (.inr h)) fun h => List.mem_append.mpr (.inl ((List.mem_filter.mp h).1)))
    have hlo : hh'.get? l = some (listOf vs.toArray nn) := (N₁ _ (List.mem_append.mpr (.inr hl))).1
    rw [frame_st hm] at F₁
    refine wpAny_mono (turn i v m₁ hh' tk' _ hP' hJ hsep F₁ N₂) (fun _ s₂ p => wpAny_mono p (fun f s₃ p => ?_) fun _ _ e => e) fun _ _ e => e
    have fin : InvEndN h₀ env.locals (fun m' nx => nx = news₁ ∧ (∀ z, stored.contains z = false → m' z = m₀ z) ∧ P (i + 1)) (own.filter fun p => decide (p.1 = s.heap.objs.size)) (news₁.map (·.1)) { s with heap := hh', toks := tk' } s₃ →
        LoopStepU h₀ env.locals [s.heap.objs.size] own (fun m nx => nx = news₁ ∧ (∀ z, stored.contains z = false → m z = m₀ z) ∧ P (i + 1)) { s with heap := hh', toks := tk' } .next s₃ := by
      rintro ⟨h', tk, m', news', nx, e, F', N', hn, ho, ha, hm'⟩
      refine ⟨rfl, h', tk, m', nx, e, F', fun p hp => ?_, fun p hp hq => ?_, hm'⟩
      · rcases List.mem_append.mp hp with h | h
        · by_cases hI : p.1 = s.heap.objs.size
          · exact N' p (ho p (List.mem_filter.mpr ⟨h, by simpa using hI⟩))
          · have h1 : p.1 = l := by
              rcases List.mem_cons.mp (hown p h) with h2 | h2
              · exact absurd h2 hI
              · exact List.mem_singleton.mp h2
            have h2 : hh'.get? p.1 = some p.2 := hget p h
            rw [h1, hlo] at h2
            have h3 : p = (l, listOf vs.toArray nn) := Prod.ext h1 (Option.some.inj h2).symm
            rw [h3]
            exact N' _ (hn _ (hm'.1 ▸ hl))
        · exact N' p (hn p h)
      · rw [hm'.1] at hp
        exact hoff p hp hq
    cases f with
    | ret v => exact .ret p
    | brk => exact .brk p
    | next => exact .next (fin p)
    | cont => exact .cont (fin p)
  · rintro h' tk m' news' F' N' _ ⟨rfl, hm, hJ⟩
    rw [frame_st hm] at F'
    exact done m' h' tk hJ F' N'
theorem list_end {L : Addr} {stored : List Str} {P : Prop} {m' m₀ : Str → Option Value} {own news news' : List (Addr × Obj)} {s₁ : Shared} {h' : Heap} {tk : Nat} (F : Fr h₀ L h' m') (N : News h₀ L h' news') (hn : ∀ p ∈ news, p ∈ news') (ho : ∀ p ∈ own, p ∈ news') (hm : ∀ z, stored.contains z = false → m' z = m₀ z) (hp : P) :
    InvEndN h₀ L (fun m' nx => nx = news ∧ (∀ z, stored.contains z = false → m' z = m₀ z) ∧ P) own (news.map (·.1)) s₁ { s₁ with heap := h', toks := tk } :=
  InvEndN.intro F N ⟨rfl, hm, hp⟩ rfl hn ho
end
end Mine
namespace Mine
local macro_rules | `(tactic| k_all) => `(tactic| assumption)
section
variable {prog : Program} {w : World} {A : Around} {E : Value → Shared → Prop} {s : Shared} {Q : Value → Shared → Prop}
theorem mod_gen {a b : Int} {t u : Tok} (hb : 0 < b) (h : ∀ k : Int, 0 ≤ k → k < b → Q (.int k s.toks) { s with toks := s.toks + 1 }) : wpAny (model prog w) A (binaryOp .Mod (.int a t) (.int b u)) Q E s :=
  mod_int' (by omega) (h _ (Int.fmod_nonneg_of_pos _ hb) (Int.fmod_lt_of_pos _ hb))
theorem mul_gen {a b : Int} {t u : Tok} (h : ∀ k : Int, Q (.int k s.toks) { s with toks := s.toks + 1 }) (hm : IntMulOk a b := by mul_fits) : wpAny (model prog w) A (binaryOp .Mult (.int a t) (.int b u)) Q E s :=
  mul_int (h _) hm
end
local macro_rules | `(tactic| walk_at "binaryOp Mod int int") => `(tactic| (k_here; refine mod_gen (by omega) ?_; intro k' hk0' hk1'; (try dsimp only)))
local macro_rules | `(tactic| walk_at "binaryOp Mult int int") => `(tactic| (k_here; refine mul_gen ?_; intro k'; (try dsimp only)))
set_option maxRecDepth 100000 in
set_option maxHeartbeats 8000000 in
theorem draw_spec (prog : Program) (w : World) (mean : ExcName → Option Value) (mg mb : Str → Option Value) {d l : Addr} {nd nl : Nat} {c many : Int} {tc tm : Tok} {vs : List Value} {ns : List Int} {rest : List (Addr × Obj)}
    (hi : IntsAre vs ns) (hr : ∀ p ∈ rest, p.1 ≠ d) (hld : l ≠ d) (hlen : 1 ≤ ns.length) (hlen2 : ns.length < 100) (hc : 0 ≤ c) (hc2 : c < 100000) (hm : 1 ≤ many) (hm2 : many < 1000) :
    Spec prog w mean mg mb 1 172 [.ref d, .int many tm] ((d, listOf #[.ref l, .int c tc] nd) :: (l, listOf vs.toArray nl) :: rest) (fun r news' => ∃ k tr tc', r = .int k tr ∧ 0 ≤ k ∧ k < many ∧ news' = (d, listOf #[.ref l, .int (c + 1) tc'] nd) :: (l, listOf vs.toArray nl) :: rest) := by
  intro dp un gd cn cs a ccd cl outer A₀ base h₀ L m s Q E B F X N T hk hd hu hret
  refine wpAny_call ?_
  k_dflt ktr_enter
  k_steps
  all_goals exact hret _ _ _ _ (by assumption) (by assumption) ⟨_, _, _, rfl, by assumption, by assumption, rfl⟩
/-- the deck's cards -/
structure DeckIs (vs : List Value) (ns : List Int) : Prop where
  ia : IntsAre vs ns
  pos : 1 ≤ ns.length
  few : ns.length < 100
theorem draw_upd (prog : Program) (w : World) (mean : ExcName → Option Value) (mg mb : Str → Option Value) {d l : Addr} {nd nl : Nat} {c many : Int} {tc tm : Tok} {vs : List Value} {ns : List Int} {news : List (Addr × Obj)} {g : Obj → List (Addr × Obj)}
    (U : UpdF d (listOf #[.ref l, .int c tc] nd) news g) (hl : (l, listOf vs.toArray nl) ∈ news) (hk : DeckIs vs ns) (hld : l ≠ d) (hc : 0 ≤ c) (hc2 : c < 100000) (hm : 1 ≤ many) (hm2 : many < 1000) :
    Spec prog w mean mg mb 1 172 [.ref d, .int many tm] news (fun r news' => ∃ k tr tc', r = .int k tr ∧ 0 ≤ k ∧ k < many ∧ news' = g (listOf #[.ref l, .int (c + 1) tc'] nd)) := by
  obtain ⟨pre, post, rfl, hg, a, b⟩ := U.split
  refine Spec.mono (news₁ := (d, listOf #[.ref l, .int c tc] nd) :: (l, listOf vs.toArray nl) :: (pre ++ post)) (draw_spec prog w mean mg mb hk.ia ?_ hld hk.pos hk.few hc hc2 hm hm2) ?_ ?_
  · intro p hp
    rcases List.mem_append.mp hp with hp | hp
    · exact a p hp
    · exact b p hp
  · intro p hp
    rcases List.mem_cons.mp hp with rfl | hp
    · simp
    · rcases List.mem_cons.mp hp with rfl | hp
      · exact hl
      · rcases List.mem_append.mp hp with hp | hp <;> simp [hp]
  · rintro r n₁ ⟨k, tr, tc', rfl, h0, h1, rfl⟩
    refine ⟨_, ?_, k, tr, tc', rfl, h0, h1, rfl⟩
    rw [hg]
    intro p hp
    rcases List.mem_append.mp hp with hp | hp
    · simp [hp]
    · rcases List.mem_cons.mp hp with rfl | hp
      · exact .head _
      · simp [hp]
section
variable {prog : Program} {w : World} {mean : ExcName → Option Value} {mg mb : Str → Option Value} {dp un : Nat} {gd : Option (List Code)} {cn : Str} {cs : Scope} {a : Addr} {ccd : Value} {cl : List (Str × Addr)} {outer : List Env} {A₀ : Around} {base h₀ : Heap} {L : Addr} {m : Str → Option Value} {s : Shared}
    {Q E : Value → Shared → Prop}
theorem draw_use {d l : Addr} {nd nl : Nat} {c many : Int} {tc tm : Tok} {vs : List Value} {ns : List Int} {news : List (Addr × Obj)} {g : Obj → List (Addr × Obj)}
    (U : UpdF d (listOf #[.ref l, .int c tc] nd) news g) (hl : (l, listOf vs.toArray nl) ∈ news) (hk : DeckIs vs ns) (hld : l ≠ d) (hc : 0 ≤ c) (hc2 : c < 100000) (hm : 1 ≤ many) (hm2 : many < 1000)
    (B : Below A₀ base outer h₀) (F : Fr h₀ L s.heap m) (X : (Mine.hd.heap_39 w.params).In h₀) (N : News h₀ L s.heap news) (T : Top Mine.hd.view_39 (looseW Mine.hd.view_39 []) mean mg mb h₀) (hkk : cs.kind = .function) (hd : dp + 10 * 1 < recursionLimit) (hu : un + 100 * 1 < cLine)
    (ret : ∀ k tr tc' h' tk', 0 ≤ k → k < many → Fr h₀ L h' m → News h₀ L h' (g (listOf #[.ref l, .int (c + 1) tc'] nd)) → Q (.int k tr) { s with heap := h', toks := tk' }) :
    wpAny (model prog w) (ktrTop dp un gd cn cs L a ccd cl outer) (call (.ref 172) [.ref d, .int many tm]) Q E s := by
  refine Spec.use (draw_upd prog w mean mg mb U hl hk hld hc hc2 hm hm2) B F X N T hkk hd hu fun r news' h' tk' F' N' hp => ?_
  obtain ⟨k, tr, tc', rfl, h0, h1, rfl⟩ := hp
  exact ret k tr tc' h' tk' h0 h1 F' N'
end
end Mine
namespace Mine
def findFrom (number : Int) : List (Int × Value) → Option Nat
  | [] => none
  | p :: ps => if p.1 = number then some 0 else (findFrom number ps).map (· + 1)
def findAt (number : Int) (ps : List (Int × Value)) : Int := match findFrom number ps with | some i => (i : Int) | none => -1
theorem findFrom_hit {number : Int} : ∀ {ps : List (Int × Value)} {i : Nat} {p : Int × Value}, (∀ j q, j < i → ps[j]? = some q → q.1 ≠ number) → ps[i]? = some p → p.1 = number → findFrom number ps = some i
  | [], i, p, _, h, _ => by simp at h
  | q :: ps, 0, p, _, h, e => by
    simp at h
    subst h
    simp [findFrom, e]
  | q :: ps, i + 1, p, hP, h, e => by
    have h0 : q.1 ≠ number := hP 0 q (Nat.succ_pos _) rfl
    have ih := findFrom_hit (ps := ps) (i := i) (p := p) (fun j r hj hr => hP (j + 1) r (by omega) (by simpa using hr)) (by simpa using h) e
    simp [findFrom, h0, ih]
theorem findFrom_miss {number : Int} : ∀ {ps : List (Int × Value)}, (∀ j q, j < ps.length → ps[j]? = some q → q.1 ≠ number) → findFrom number ps = none
  | [], _ => rfl
  | q :: ps, hP => by
    have h0 : q.1 ≠ number := hP 0 q (by simp) rfl
    have ih := findFrom_miss (ps := ps) (fun j r hj hr => hP (j + 1) r (by simpa using hj) (by simpa using hr))
    simp [findFrom, h0, ih]
theorem find_hit {number : Int} {ps : List (Int × Value)} {i : Nat} {p : Int × Value} (hP : ∀ j q, j < i → ps[j]? = some q → q.1 ≠ number) (h : ps[((i : Int)).toNat]? = some p) (e : p.1 = number) : Int.ofNat i = findAt number ps := by
  unfold findAt
  rw [findFrom_hit hP (by simpa using h) e]
  rfl
theorem find_miss {number : Int} {ps : List (Int × Value)} (hP : ∀ j q, j < ps.length → ps[j]? = some q → q.1 ≠ number) : (-1 : Int) = findAt number ps := by
  unfold findAt
  rw [findFrom_miss hP]
theorem find_step {number : Int} {ps : List (Int × Value)} {i : Nat} {p : Int × Value} (hP : ∀ j q, j < i → ps[j]? = some q → q.1 ≠ number) (h : ps[((i : Int)).toNat]? = some p) (e : p.1 ≠ number) : ∀ j q, j < i + 1 → ps[j]? = some q → q.1 ≠ number := by
  intro j q hj hq
  by_cases h1 : j = i
  · subst h1
    have h' : ps[j]? = some p := by simpa using h
    rw [h'] at hq
    cases hq
    exact e
  · exact hP j q (by omega) hq
theorem int_is {k k' : Int} {t : Tok} (h : k = k') : Value.int k t = Value.int k' t := by rw [h]
local macro_rules | `(tactic| walk_at $s:str) => `(tactic| k_extra $s)
set_option maxRecDepth 100000 in
set_option maxHeartbeats 8000000 in
theorem find_spec (prog : Program) (w : World) (mean : ExcName → Option Value) (mg mb : Str → Option Value) {d : Addr} {nd : Nat} {number : Int} {tm : Tok} {vs : List Value} {ps : List (Int × Value)} {rest : List (Addr × Obj)}
    (hp : PlistIs rest vs ps) (hlen : ps.length < 100) :
    Spec prog w mean mg mb 1 28 [.ref d, .int number tm] ((d, listOf vs.toArray nd) :: rest) (fun r news' => ∃ tr, news' = (d, listOf vs.toArray nd) :: rest ∧ r = .int (findAt number ps) tr) := by
  intro dp un gd cn cs a ccd cl outer A₀ base h₀ L m s Q E B F X N T hk hd hu hret
  refine wpAny_call ?_
  have hl9 := hp.length
  k_with_none
  k_with "call builtin:len" => (refine lenL (by assumption) (by k_mem) hl9 (by omega) ?_; (try dsimp only))
  k_with "pyIter ref" => ((rename Fr _ _ _ _ => lF'); (rename News _ _ _ _ => lN'); (rename IsRange _ _ _ _ _ _ _ _ => rgX); (with_unfolding_all refine' range_stay (n := ps.length) (fun i => ∀ j p, j < i → ps[j]? = some p → p.1 ≠ number) (by rfl) (by first | exact rgX | assumption) (by rfl) (by omega) lF' lN' (fun j p h _ => absurd h (Nat.not_lt_zero _)) (fun i' t' h' tk' own' hi' hP' hoff' F' N' => ?_) (fun u' h' tk' hP' F' N' => ?_)); all_goals (clear lF' lN'; (try simp only [List.cons_append] at N'); (try k_fold)))
  k_with "subscriptTail Name Name ref int" => ((with_reducible show wpAny _ _ (subscriptTail _ _ (Value.ref d) (Value.int _ _)) _ _ _); (with_unfolding_all refine' itemP (ps := ps) (by assumption) (by k_mem) (hp.mono (fun q hq => by simp [hq])) (by omega) (by omega) (by omega) (fun a' i' tk' x' kk' hmem' hps' => ?_)); (try dsimp only))
  k_dflt ktr_enter
  k_steps
  · exact hret _ _ _ _ (by assumption) (news_sub (by assumption) (fun q hq => by rcases List.mem_cons.mp hq with h | h <;> simp [h])) ⟨_, rfl, int_is (find_hit (by assumption) (by assumption) (by assumption))⟩
  · refine rstay_end (by assumption) (by assumption) (fun q hq => ?_) (fun q hq => by simp [hq]) (fun z hz => by simp only [if_neg hz]) (find_step (by assumption) (by assumption) (by assumption))
    rcases List.mem_cons.mp hq with h | h <;> simp [h]
  · exact hret _ _ _ _ (by assumption) (by assumption) ⟨_, rfl, int_is (find_miss (by assumption))⟩
theorem find_spec' (prog : Program) (w : World) (mean : ExcName → Option Value) (mg mb : Str → Option Value) {d : Addr} {nd : Nat} {number : Int} {tm : Tok} {vs : List Value} {ps : List (Int × Value)} {news : List (Addr × Obj)}
    (hm : (d, listOf vs.toArray nd) ∈ news) (hp : PlistIs news vs ps) (hlen : ps.length < 100) :
    Spec prog w mean mg mb 1 28 [.ref d, .int number tm] news (fun r news' => ∃ tr, news' = news ∧ r = .int (findAt number ps) tr) :=
  Spec.mono (news := news) (news₁ := (d, listOf vs.toArray nd) :: news) (find_spec prog w mean mg mb (nd := nd) hp hlen) (fun p h => (List.mem_cons.mp h).elim (fun e => e ▸ hm) id) (by
    rintro r n₁ ⟨tr, rfl, rfl⟩
    exact ⟨news, fun p h => .tail _ h, tr, rfl, rfl⟩)
end Mine
namespace Mine
local macro_rules | `(tactic| ktn_call $x $c) => `(tactic| (k_dflt (refine' Spec.use $x ?B ?F ?X ?N ?T ?hk ?hd ?hu ?ret; (case B => k_asm); (case F => k_asm); (case X => k_asm); (case N => k_asm); (case T => k_asm); (case hk => first | exact rfl | assumption); (case hd => ktr_room); (case hu => ktr_units))))
local macro_rules | `(tactic| walk_at $s:str) => `(tactic| k_extra $s)
def lookP (number : Int) : List (Int × Value) → Option Value
  | [] => none
  | p :: ps => if p.1 = number then some p.2 else lookP number ps
theorem lookP_hit {number : Int} : ∀ {ps : List (Int × Value)} {i : Nat} {p : Int × Value}, (∀ j q, j < i → ps[j]? = some q → q.1 ≠ number) → ps[i]? = some p → p.1 = number → lookP number ps = some p.2
  | [], i, p, _, h, _ => by simp at h
  | q :: ps, 0, p, _, h, e => by
    simp at h
    subst h
    simp [lookP, e]
  | q :: ps, i + 1, p, hP, h, e => by
    have h0 : q.1 ≠ number := hP 0 q (Nat.succ_pos _) rfl
    have ih := lookP_hit (ps := ps) (i := i) (p := p) (fun j r hj hr => hP (j + 1) r (by omega) (by simpa using hr)) (by simpa using h) e
    simp [lookP, h0, ih]
theorem lookP_miss {number : Int} : ∀ {ps : List (Int × Value)}, (∀ j q, j < ps.length → ps[j]? = some q → q.1 ≠ number) → lookP number ps = none
  | [], _ => rfl
  | q :: ps, hP => by
    have h0 : q.1 ≠ number := hP 0 q (by simp) rfl
    have ih := lookP_miss (ps := ps) (fun j r hj hr => hP (j + 1) r (by simpa using hj) (by simpa using hr))
    simp [lookP, h0, ih]
theorem findAt_cases (number : Int) : ∀ ps : List (Int × Value), (findAt number ps = -1 ∧ lookP number ps = none) ∨ ∃ (i : Nat) (x : Value), findAt number ps = (i : Int) ∧ ps[i]? = some (number, x) ∧ lookP number ps = some x
  | [] => .inl ⟨rfl, rfl⟩
  | p :: ps => by
    by_cases h : p.1 = number
    · exact .inr ⟨0, p.2, by simp [findAt, findFrom, h], by simp [← h], by simp [lookP, h]⟩
    · rcases findAt_cases number ps with ⟨h1, h2⟩ | ⟨i, x, h1, h2, h3⟩
      · refine .inl ⟨?_, by simp [lookP, h, h2]⟩
        unfold findAt at h1 ⊢
        cases hf : findFrom number ps with
        | none => simp [findFrom, h, hf]
        | some i => rw [hf] at h1; simp at h1
      · refine .inr ⟨i + 1, x, ?_, by simpa using h2, by simp [lookP, h, h3]⟩
        unfold findAt at h1 ⊢
        cases hf : findFrom number ps with
        | none => rw [hf] at h1; simp at h1
        | some j => rw [hf] at h1; simp at h1; simp [findFrom, h, hf, h1]
/-- what a getter gives: None, or a new tuple of the one value -/
def Found (o : Option Value) (news : List (Addr × Obj)) (r : Value) (news' : List (Addr × Obj)) : Prop :=
  (o = none ∧ r = .none ∧ news = news') ∨ ∃ x a k, o = some x ∧ r = .ref a ∧ news' = (a, tupO [x] k) :: news ∧ ∀ p ∈ news, p.1 < a
set_option maxRecDepth 100000 in
set_option maxHeartbeats 8000000 in
theorem get_spec (prog : Program) (w : World) (mean : ExcName → Option Value) (mg mb : Str → Option Value) {d : Addr} {nd : Nat} {number : Int} {tm : Tok} {vs : List Value} {ps : List (Int × Value)} {news : List (Addr × Obj)}
    (hm : (d, listOf vs.toArray nd) ∈ news) (hp : PlistIs news vs ps) (hlen : ps.length < 100) :
    Spec prog w mean mg mb 2 35 [.ref d, .int number tm] news (Found (lookP number ps) news) := by
  intro dp un gd cn cs a ccd cl outer A₀ base h₀ L m s Q E B F X N T hk hd hu hret
  refine wpAny_call ?_
  have hl9 := hp.length
  k_with_none
  k_with "call ref" => (ktn_call (find_spec' prog w mean mg mb hm hp hlen) 0; intro r' news' h' tk' F' N' hpost'; obtain ⟨tr', hn', hr'⟩ := hpost'; replace hn' := hn'.symm; subst hn'; subst hr'; (rcases findAt_cases number ps with ⟨f1, f2⟩ | ⟨i1, x1, f1, f2, f3⟩ <;> rw [f1] <;> (try dsimp only) <;> (try k_fold)))
  k_with "subscriptTail Name Name ref int" => ((with_reducible show wpAny _ _ (subscriptTail _ _ (Value.ref d) (Value.int _ _)) _ _ _); (with_unfolding_all refine' itemQ (by assumption) hm hp f2 (by omega) (fun a' tk' kk' hmem' => ?_)); (try dsimp only))
  k_dflt ktr_enter
  k_steps
  · exact hret _ _ _ _ (by assumption) (by assumption) (.inl ⟨f2, rfl, rfl⟩)
  · exact hret _ _ _ _ (by assumption) (by assumption) (.inr ⟨_, _, _, f3, rfl, rfl, by assumption⟩)
end Mine
namespace Mine
/-- the words that a place may hold -/
inductive V where
  | nil
  | tru
  | num (i : Int)
  | sym (i : Int)
  | lst
inductive VIs (news : List (Addr × Obj)) : Value → V → Prop
  | nil : VIs news .none .nil
  | tru : VIs news (.bool true) .tru
  | num {i : Int} {tk : Tok} : VIs news (.int i tk) (.num i)
  | sym {a : Addr} {i : Int} {t u : Tok} {k : Nat} : (a, tupO [.str (Str.ofString "symbol") t, .int i u] k) ∈ news → VIs news (.ref a) (.sym i)
  | lst {a : Addr} {xs : List Value} {t : Tok} {k : Nat} : (a, tupO (.str (Str.ofString "list") t :: xs) k) ∈ news → VIs news (.ref a) .lst
theorem VIs.mono {news news' : List (Addr × Obj)} {v : Value} {d : V} (h : VIs news v d) (hs : ∀ q ∈ news, q ∈ news') : VIs news' v d := by
  cases h with
  | nil => exact .nil
  | tru => exact .tru
  | num => exact .num
  | sym h => exact .sym (hs _ h)
  | lst h => exact .lst (hs _ h)
theorem VIs.cons {news : List (Addr × Obj)} {q : Addr × Obj} {v : Value} {d : V} (h : VIs news v d) : VIs (q :: news) v d := h.mono fun _ hq => .tail _ hq
def symNo : V → Int
  | .sym i => i
  | _ => -1
local macro_rules | `(tactic| walk_at $s:str) => `(tactic| k_extra $s)
set_option maxRecDepth 100000 in
set_option maxHeartbeats 8000000 in
theorem numberOf_spec (prog : Program) (w : World) (mean : ExcName → Option Value) (mg mb : Str → Option Value) {x : Addr} {v : Value} {d : V} {news : List (Addr × Obj)}
    (hv : VIs news v d) : Spec prog w mean mg mb 1 125 [.ref x, v] news (fun r news' => ∃ tr, news = news' ∧ r = .int (symNo d) tr) := by
  intro dp un gd cn cs a ccd cl outer A₀ base h₀ L m s Q E B F X N T hk hd hu hret
  refine wpAny_call ?_
  k_with_none
  k_with "subscriptTail" => ((with_reducible show wpAny _ _ (subscriptTail _ _ (Value.ref _) (Value.int 0 _)) _ _ _); (with_unfolding_all refine' item0 (by assumption) (by assumption) ?_); (try dsimp only))
  cases hv
  all_goals (
    k_dflt ktr_enter
    k_steps)
  all_goals exact hret _ _ _ _ (by assumption) (by assumption) ⟨_, rfl, rfl⟩
end Mine
namespace Mine
local macro_rules | `(tactic| ktn_call $x $c) => `(tactic| (k_dflt (refine' Spec.use $x ?B ?F ?X ?N ?T ?hk ?hd ?hu ?ret; (case B => k_asm); (case F => k_asm); (case X => k_asm); (case N => k_asm); (case T => k_asm); (case hk => first | exact rfl | assumption); (case hd => ktr_room); (case hu => ktr_units))))
abbrev lispEs (P : Params) (t0 t1 t2 t3 u0 : Tok) (pd : Addr) : List DictEntry := [
  ⟨PyData.keyHash P (Str.ofString "first"), .str (Str.ofString "first") t0, .int 20 u0⟩,
  ⟨PyData.keyHash P (Str.ofString "nil"), .str (Str.ofString "nil") t1, .none⟩,
  ⟨PyData.keyHash P (Str.ofString "true"), .str (Str.ofString "true") t2, .bool true⟩,
  ⟨PyData.keyHash P (Str.ofString "plists"), .str (Str.ofString "plists") t3, .ref pd⟩]
local macro_rules | `(tactic| walk_at $s:str) => `(tactic| k_extra $s)
set_option maxRecDepth 100000 in
set_option maxHeartbeats 8000000 in
theorem symProp_spec (prog : Program) (w : World) (mean : ExcName → Option Value) (mg mb : Str → Option Value) {lx ldx pd p8 : Addr} {opd : Obj} {t0 t1 t2 t3 u0 : Tok} {n8 : Nat} {v8 : List Value} {ps8 : List (Int × Value)} {i number : Int} {tm : Tok} {v : Value} {news : List (Addr × Obj)}
    (hx : (lx, instObj 156 ldx) ∈ news) (hdx : (ldx, dictOf (lispEs w.params t0 t1 t2 t3 u0 pd) 4) ∈ news) (hpd : (pd, opd) ∈ news) (hlo : (pd == sysModules) = false) (hop : opd.IsDictOf (intKind prog w) [(8, .ref p8)]) (h8 : (p8, listOf v8.toArray n8) ∈ news) (hp8 : PlistIs news v8 ps8) (hlen : ps8.length < 100)
    (hv : VIs news v (.sym i)) (hi : i = 8 ∨ i = 9) : Spec prog w mean mg mb 2 153 [.ref lx, v, .int number tm] news (Found (if i = 8 then lookP number ps8 else none) news) := by
  intro dp un gd cn cs a ccd cl outer A₀ base h₀ L m s Q E B F X N T hk hd hu hret
  refine wpAny_call ?_
  k_with_none
  k_with "call ref" => ((with_reducible show wpAny _ _ (call (Value.ref 125) _) _ _ _); ktn_call (numberOf_spec prog w mean mg mb hv) 0; intro r' news' h' tk' F' N' hpost'; obtain ⟨tr', hn', hr'⟩ := hpost'; subst hn'; subst hr'; (try simp only [symNo]); (try dsimp only); (try k_fold))
  k_with "getMethod ref" => ((with_reducible show wpAny _ _ (getMethod (Value.ref pd) _ _) _ _ _); k_dflt (refine kdg_method (knd := intKind _ _) (by k_asm) hpd hop ?_); (try dsimp only))
  k_with "call builtin:dict.get" => (k_dflt (first | refine kdg_get2 (knd := intKind _ _) (by k_asm) (.tail _ hpd) hop hlo (intKind_is _ _ _ _) (some _) (by rfl) ?_ | refine kdg_get2 (knd := intKind _ _) (by k_asm) (.tail _ hpd) hop hlo (intKind_is _ _ _ _) none (by rfl) ?_); (try dsimp only [Option.getD]))
  k_with "exec For" => ((rename Fr _ _ _ _ => lF'); (with_unfolding_all refine' For_turns lF' ?_); k_whole)
  k_with "pyIter ref" => ((rename Fr _ _ _ _ => lF'); (rename News _ _ _ _ => lN'); first
    | (with_unfolding_all refine' list_turns (l := p8) (vs := v8) [Str.ofString "own", Str.ofString "held"] (fun i => ∀ j p, j < i → ps8[j]? = some p → p.1 ≠ number) (by rfl) (.tail _ h8) lF' lN' (fun j p h _ => absurd h (Nat.not_lt_zero _)) (fun i' v' u' h' tk' own' hv' hP' hoff' F' N' => ?_) (fun u' h' tk' hP' F' N' => ?_); (obtain ⟨a', n', tj', x', kk', e', hmem', hps'⟩ := hp8.get hv'; subst e'))
    | (with_unfolding_all refine' list_turns (vs := []) (nn := 0) [Str.ofString "own", Str.ofString "held"] (fun i => True) (by rfl) (.head _) lF' lN' trivial (fun i' v' u' h' tk' own' hv' hP' hoff' F' N' => by simp at hv') (fun u' h' tk' hP' F' N' => ?_)); all_goals (clear lF' lN'; (try simp only [List.cons_append] at N'); (try k_fold)))
  k_with "assign Tuple" => (k_dflt (refine' unpackN_ ?k1 ?k2 ?k3 ?k4 ?k5 ?k6 ?_; (case k1 => k_asm); (case k2 => k_asm); (case k3 => exact News.isTup (by k_asm) (List.mem_cons_of_mem _ (List.mem_append_left _ hmem'))); (case k4 => exact rfl); (case k5 => exact rfl); (case k6 => exact rfl); k_whole); intro h' F' N'; (try k_sweep))
  rcases hi with rfl | rfl
  all_goals (
    k_dflt ktr_enter
    k_steps)
  · rename News h₀ L _ _ => kN
    refine hret _ (_ :: news) _ _ (by assumption) (news_sub kN (cons_sub fun q hq => by simp [hq])) ?_
    · have e1 : lookP number ps8 = some x' := lookP_hit hP' hps' (by assumption)
      exact .inr ⟨_, _, _, by simp [e1], rfl, rfl, lt_sub (by assumption) (fun p hp => by simp [hp])⟩
  · refine list_end (by assumption) (by assumption) (fun q hq => List.mem_append_left _ hq) (fun q hq => by simp [hq]) (fun z hz => ?_) (find_step hP' (by simpa using hps') (by assumption))
    have h1 : z ≠ Str.ofString "own" := by rintro rfl; simp at hz
    have h2 : z ≠ Str.ofString "held" := by rintro rfl; simp at hz
    simp only [if_neg h1, if_neg h2, hz, Bool.false_eq_true, if_false]
  · refine hret _ news _ _ (by assumption) (news_sub (by assumption) (fun q hq => by simp [hq])) ?_
    have e1 : lookP number ps8 = none := lookP_miss (by rw [← hp8.length]; exact hP')
    exact .inl ⟨by simp [e1], rfl, rfl⟩
  · refine hret _ news _ _ (by assumption) (news_sub (by assumption) (fun q hq => by simp [hq])) ?_
    exact .inl ⟨by simp, rfl, rfl⟩
end Mine
namespace Mine
local macro_rules | `(tactic| ktn_call $x $c) => `(tactic| (k_dflt (refine' Spec.use $x ?B ?F ?X ?N ?T ?hk ?hd ?hu ?ret; (case B => k_asm); (case F => k_asm); (case X => k_asm); (case N => k_asm); (case T => k_asm); (case hk => first | exact rfl | assumption); (case hd => ktr_room); (case hu => ktr_units))))
abbrev rulesEs (P : Params) (t0 t1 t2 t3 t4 t5 t6 t7 t8 u0 u1 u2 u3 u4 : Tok) (lx dd : Addr) : List DictEntry := [
  ⟨PyData.keyHash P (Str.ofString "lisp"), .str (Str.ofString "lisp") t0, .ref lx⟩,
  ⟨PyData.keyHash P (Str.ofString "nil"), .str (Str.ofString "nil") t1, .none⟩,
  ⟨PyData.keyHash P (Str.ofString "true"), .str (Str.ofString "true") t2, .bool true⟩,
  ⟨PyData.keyHash P (Str.ofString "category"), .str (Str.ofString "category") t3, .int 20 u0⟩,
  ⟨PyData.keyHash P (Str.ofString "front_sticky"), .str (Str.ofString "front_sticky") t4, .int 21 u1⟩,
  ⟨PyData.keyHash P (Str.ofString "rear_nonsticky"), .str (Str.ofString "rear_nonsticky") t5, .int 22 u2⟩,
  ⟨PyData.keyHash P (Str.ofString "evaporate"), .str (Str.ofString "evaporate") t6, .int 23 u3⟩,
  ⟨PyData.keyHash P (Str.ofString "priority"), .str (Str.ofString "priority") t7, .int 24 u4⟩,
  ⟨PyData.keyHash P (Str.ofString "defaults"), .str (Str.ofString "defaults") t8, .ref dd⟩]
/-- what the ledger says of the two instances, the one table of lists and the list of symbol 8 -/
structure World8 (prog : Program) (w : World) (news : List (Addr × Obj)) (rx rdx lx ldx dd pd p8 : Addr) (ps8 : List (Int × Value)) : Prop where
  r : (rx, instObj 59 rdx) ∈ news
  rd : ∃ t0 t1 t2 t3 t4 t5 t6 t7 t8 u0 u1 u2 u3 u4, (rdx, dictOf (rulesEs w.params t0 t1 t2 t3 t4 t5 t6 t7 t8 u0 u1 u2 u3 u4 lx dd) 9) ∈ news
  l : (lx, instObj 156 ldx) ∈ news
  ld : ∃ t0 t1 t2 t3 u0, (ldx, dictOf (lispEs w.params t0 t1 t2 t3 u0 pd) 4) ∈ news
  lo : (pd == sysModules) = false
  pd : ∃ opd, (pd, opd) ∈ news ∧ opd.IsDictOf (intKind prog w) [(8, .ref p8)]
  p8 : ∃ v8 n8, (p8, listOf v8.toArray n8) ∈ news ∧ PlistIs news v8 ps8
  len : ps8.length < 100
theorem World8.mono {prog : Program} {w : World} {news news' : List (Addr × Obj)} {rx rdx lx ldx dd pd p8 : Addr} {ps8 : List (Int × Value)} (W : World8 prog w news rx rdx lx ldx dd pd p8 ps8) (hs : ∀ q ∈ news, q ∈ news') : World8 prog w news' rx rdx lx ldx dd pd p8 ps8 := by
  obtain ⟨hr, ⟨t0, t1, t2, t3, t4, t5, t6, t7, t8, u0, u1, u2, u3, u4, hrd⟩, hl, ⟨s0, s1, s2, s3, v0, hld⟩, hlo, ⟨opd, hpd, hop⟩, ⟨v8, n8, h8, hp8⟩, hlen8⟩ := W
  exact ⟨hs _ hr, ⟨_, _, _, _, _, _, _, _, _, _, _, _, _, _, hs _ hrd⟩, hs _ hl, ⟨_, _, _, _, _, hs _ hld⟩, hlo, ⟨opd, hs _ hpd, hop⟩, ⟨v8, n8, hs _ h8, hp8.mono hs⟩, hlen8⟩
inductive CatIs (news : List (Addr × Obj)) (ps : List (Int × Value)) : Option V → Prop
  | none : lookP 20 ps = Option.none → CatIs news ps Option.none
  | sym8 {x : Value} : lookP 20 ps = some x → VIs news x (.sym 8) → CatIs news ps (some (.sym 8))
  | sym9 {x : Value} : lookP 20 ps = some x → VIs news x (.sym 9) → CatIs news ps (some (.sym 9))
  | num {x : Value} : lookP 20 ps = some x → VIs news x (.num 8) → CatIs news ps (some (.num 8))
  | lst {x : Value} : lookP 20 ps = some x → VIs news x .lst → CatIs news ps (some .lst)
def valueOf (number : Int) (ps ps8 : List (Int × Value)) (cat : Option V) : Value :=
  match lookP number ps with
  | some x => x
  | none => match cat with
    | some (.sym 8) => (lookP number ps8).getD .none
    | _ => .none
local macro_rules | `(tactic| walk_at $s:str) => `(tactic| k_extra $s)
local macro_rules | `(tactic| k_mem) => `(tactic| first | exact List.mem_cons_of_mem _ (by ktr_member) | exact List.mem_cons_of_mem _ (List.mem_cons_of_mem _ (by ktr_member)) | exact List.mem_cons_of_mem _ (List.mem_cons_of_mem _ (List.mem_cons_of_mem _ (by ktr_member))))
set_option maxRecDepth 100000 in
set_option maxHeartbeats 8000000 in
theorem valueIn_spec (prog : Program) (w : World) (mean : ExcName → Option Value) (mg mb : Str → Option Value) {rx rdx lx ldx dd pd p8 d : Addr} {nd : Nat} {vs : List Value} {ps ps8 : List (Int × Value)} {number : Int} {tm : Tok} {cat : Option V} {news : List (Addr × Obj)}
    (W : World8 prog w news rx rdx lx ldx dd pd p8 ps8) (hm : (d, listOf vs.toArray nd) ∈ news) (hp : PlistIs news vs ps) (hlen : ps.length < 100) (hc : CatIs news ps cat) :
    Spec prog w mean mg mb 3 70 [.ref rx, .ref d, .int number tm] news (fun r news' => news = news' ∧ r = valueOf number ps ps8 cat) := by
  obtain ⟨hr, ⟨t0, t1, t2, t3, t4, t5, t6, t7, t8, u0, u1, u2, u3, u4, hrd⟩, hl, ⟨s0, s1, s2, s3, v0, hld⟩, hlo, ⟨opd, hpd, hop⟩, ⟨v8, n8, h8, hp8⟩, hlen8⟩ := W
  intro dp un gd cn cs a ccd cl outer A₀ base h₀ L m s Q E B F X N T hk hd hu hret
  refine wpAny_call ?_
  k_with_none
  k_with "call ref" => ((with_reducible show wpAny _ _ (call (Value.ref 35) [_, Value.int number _]) _ _ _); ktn_call (get_spec prog w mean mg mb hm hp hlen) 0; intro r' news' h' tk' F' N' hpost'; (rcases hpost' with ⟨e1, rfl, rfl⟩ | ⟨x1, a1, k1, e1, rfl, rfl, hlt1⟩); all_goals ((try dsimp only); (try k_fold)))
  k_with "call ref" => ((with_reducible show wpAny _ _ (call (Value.ref 35) [_, Value.int 20 _]) _ _ _); ktn_call (get_spec prog w mean mg mb hm hp hlen) 0; intro r' news' h' tk' F' N' hpost'; (rcases hpost' with ⟨e2, rfl, rfl⟩ | ⟨x2, a2, k2, e2, rfl, rfl, hlt2⟩) <;> (rcases hc with hz | ⟨hz, hv2⟩ | ⟨hz, hv2⟩ | ⟨hz, hv2⟩ | ⟨hz, hv2⟩) <;> (rw [e2] at hz; cases hz) <;> (try dsimp only) <;> (try k_fold))
  k_with "call ref" => ((with_reducible show wpAny _ _ (call (Value.ref 125) _) _ _ _); ktn_call (numberOf_spec prog w mean mg mb hv2.cons) 0; intro r' news' h' tk' F' N' hpost'; obtain ⟨tr', hn', hr'⟩ := hpost'; subst hn'; subst hr'; (try simp only [symNo]); (try dsimp only); (try k_fold))
  k_with "call ref" => ((with_reducible show wpAny _ _ (call (Value.ref 153) _) _ _ _); ktn_call (symProp_spec prog w mean mg mb (List.mem_cons_of_mem _ hl) (List.mem_cons_of_mem _ hld) (List.mem_cons_of_mem _ hpd) hlo hop (List.mem_cons_of_mem _ h8) hp8.cons' hlen8 hv2.cons (by decide)) 0; intro r' news' h' tk' F' N' hpost'; (rcases hpost' with ⟨e3, rfl, rfl⟩ | ⟨x3, a3, k3, e3, rfl, rfl, hlt3⟩); all_goals ((try dsimp only); (try k_fold)))
  k_dflt ktr_enter
  k_steps
  all_goals (refine hret _ news _ _ (by assumption) (news_sub (by assumption) (fun q hq => by simp [hq])) ⟨rfl, ?_⟩; simp_all [valueOf])
end Mine
namespace Mine
local macro_rules | `(tactic| walk_at $s:str) => `(tactic| k_extra $s)
local macro_rules | `(tactic| k_mem) => `(tactic| first | exact List.mem_cons_of_mem _ (by ktr_member) | exact List.mem_append_left _ (by ktr_member) | exact List.mem_cons_of_mem _ (List.mem_append_left _ (by ktr_member)))
def catMiss (number : Int) (ps8 : List (Int × Value)) : Option V → Prop
  | some (.sym 8) => lookP number ps8 = none
  | _ => True
theorem lookP_at {number : Int} {x : Value} : ∀ {ps : List (Int × Value)}, lookP number ps = some x → ∃ i : Nat, ps[i]? = some (number, x)
  | [], h => by simp [lookP] at h
  | p :: ps, h => by
    unfold lookP at h
    split at h
    · rename_i e
      cases h
      exact ⟨0, by simp [← e]⟩
    · obtain ⟨i, hi⟩ := lookP_at h
      exact ⟨i + 1, by simpa using hi⟩
theorem valueOf_own {number : Int} {ps ps8 : List (Int × Value)} {cat : Option V} {x : Value} (h : lookP number ps = some x) : x = valueOf number ps ps8 cat := by
  unfold valueOf; rw [h]
theorem valueOf_cat {number : Int} {ps ps8 : List (Int × Value)} {x : Value} (h : lookP number ps = none) (h8 : lookP number ps8 = some x) : x = valueOf number ps ps8 (some (.sym 8)) := by
  unfold valueOf; rw [h, h8]; rfl
theorem valueOf_none {news : List (Addr × Obj)} {number : Int} {ps ps8 : List (Int × Value)} {cat : Option V} {n : Nat} (hn : n = ps.length) (h : lookP number ps = none) (hc : CatIs news ps cat) (hP : (∃ (j : Nat) (x : Value), j < n ∧ ps[j]? = some ((20 : Int), x)) → catMiss number ps8 cat) : Value.none = valueOf number ps ps8 cat := by
  subst hn
  unfold valueOf
  rw [h]
  cases hc with
  | none => rfl
  | sym8 hx _ =>
    obtain ⟨i, hi⟩ := lookP_at hx
    have h9 : lookP number ps8 = none := hP ⟨i, _, (List.getElem?_eq_some_iff.mp hi).1, hi⟩
    simp [h9]
  | _ => rfl
theorem cat_step {number : Int} {ps ps8 : List (Int × Value)} {cat : Option V} {i : Nat} {k : Int} {y : Value} (hP : (∃ (j : Nat) (x : Value), j < i ∧ ps[j]? = some ((20 : Int), x)) → catMiss number ps8 cat) (h : ps[i]? = some (k, y)) (hk : k ≠ 20) :
    (∃ (j : Nat) (x : Value), j < i + 1 ∧ ps[j]? = some ((20 : Int), x)) → catMiss number ps8 cat := by
  rintro ⟨j, x, hj, hx⟩
  refine hP ⟨j, x, ?_, hx⟩
  rcases Nat.lt_succ_iff_lt_or_eq.mp hj with h1 | rfl
  · exact h1
  · rw [h] at hx
    cases hx
    exact absurd rfl hk
set_option maxRecDepth 100000 in
set_option maxHeartbeats 8000000 in
theorem lawValue_spec (prog : Program) (w : World) (mean : ExcName → Option Value) (mg mb : Str → Option Value) {p8 d hh : Addr} {ohh : Obj} {nd n8 : Nat} {vs v8 : List Value} {ps ps8 : List (Int × Value)} {number : Int} {tm tc : Tok} {cat : Option V} {news : List (Addr × Obj)}
    (hhh : (hh, ohh) ∈ news) (hlo : (hh == sysModules) = false) (hop : ohh.IsDictOf (intKind prog w) [(8, .ref p8)]) (h8 : (p8, listOf v8.toArray n8) ∈ news) (hp8 : PlistIs news v8 ps8) (hlen8 : ps8.length < 100)
    (hm : (d, listOf vs.toArray nd) ∈ news) (hp : PlistIs news vs ps) (hlen : ps.length < 100) (hU : ∀ (i : Nat) x, ps[i]? = some ((20 : Int), x) → lookP 20 ps = some x) (hc : CatIs news ps cat) :
    Spec prog w mean mg mb 3 186 [.ref d, .int number tm, .int 20 tc, .ref hh] news (fun r news' => news = news' ∧ r = valueOf number ps ps8 cat) := by
  intro dp un gd cn cs a ccd cl outer A₀ base h₀ L m s Q E B F X N T hk hd hu hret
  refine wpAny_call ?_
  have hl9 := hp.length
  have hl8 := hp8.length
  k_with_none
  k_with "exec For" => ((rename Fr _ _ _ _ => lF'); (with_unfolding_all refine' For_turns lF' ?_); k_whole)
  k_with "pyIter ref" => ((with_reducible show wpAny _ _ (pyIter (Value.ref d)) (fun it s₂ => TurnsAt _ _ _ _ _ (Expr.Tuple [_, Expr.Name (Str.ofString "value") _] _ _) _ _ _ it s₂) _ _); (rename Fr _ _ _ _ => lF'); (rename News _ _ _ _ => lN'); (with_unfolding_all refine' list_turns (l := d) (vs := vs) [Str.ofString "own", Str.ofString "value"] (fun i => ∀ j p, j < i → ps[j]? = some p → p.1 ≠ number) (by rfl) hm lF' lN' (fun j p h _ => absurd h (Nat.not_lt_zero _)) (fun i1 v1 u1 h' tk' own1 hv1 hP1 hoff1 F' N' => ?_) (fun u1 h' tk' hP1 F' N' => ?_)); (obtain ⟨a1, n1, tj1, x1, kk1, e1, hmem1, hps1⟩ := hp.get hv1; subst e1); all_goals (clear lF' lN'; (try k_fold)))
  k_with "pyIter ref" => ((with_reducible show wpAny _ _ (pyIter (Value.ref d)) (fun it s₂ => TurnsAt _ _ _ _ _ (Expr.Tuple [_, Expr.Name (Str.ofString "word") _] _ _) _ _ _ it s₂) _ _); (rename Fr _ _ _ _ => lF'); (rename News _ _ _ _ => lN'); (with_unfolding_all refine' list_turns (l := d) (vs := vs) [Str.ofString "own", Str.ofString "word", Str.ofString "its", Str.ofString "value"] (fun i => (∃ (j : Nat) (x : Value), j < i ∧ ps[j]? = some ((20 : Int), x)) → catMiss number ps8 cat) (by rfl) hm lF' lN' (fun ⟨j, x, h, _⟩ => absurd h (Nat.not_lt_zero _)) (fun i2 v2 u2 h' tk' own2 hv2 hP2 hoff2 F' N' => ?_) (fun u2 h' tk' hP2 F' N' => ?_)); (obtain ⟨a2, n2, tj2, x2, kk2, e2, hmem2, hps2⟩ := hp.get hv2; subst e2); all_goals (clear lF' lN'; (try k_fold)))
  k_with "assign Tuple" => (k_dflt (refine' unpackN_ ?k1 ?k2 ?k3 ?k4 ?k5 ?k6 ?_; (case k1 => k_asm); (case k2 => k_asm); (case k3 => exact News.isTup (by k_asm) (by k_mem)); (case k4 => exact rfl); (case k5 => exact rfl); (case k6 => exact rfl); k_whole); intro h' F' N'; (try k_sweep))
  k_with "call builtin:isinstance" => ((with_reducible show wpAny _ _ (call (Value.builtin "isinstance") [x2, Value.type "tuple"]) _ _ _); (rename n2 = 20 => hn20); subst hn20; (have hq20 := hU _ _ hps2); (rcases hc with hz | ⟨hz, hv⟩ | ⟨hz, hv⟩ | ⟨hz, hv⟩ | ⟨hz, hv⟩) <;> (rw [hq20] at hz; cases hz) <;> cases hv)
  k_with "subscriptTail" => ((with_reducible show wpAny _ _ (subscriptTail _ _ (Value.ref _) (Value.int 0 _)) _ _ _); (with_unfolding_all refine' item0 (by assumption) (List.mem_append_left _ (by assumption)) ?_); (try dsimp only))
  k_with "getMethod ref" => ((with_reducible show wpAny _ _ (getMethod (Value.ref hh) _ _) _ _ _); k_dflt (refine kdg_method (knd := intKind _ _) (by k_asm) (by k_mem) hop ?_); (try dsimp only))
  k_with "call builtin:dict.get" => (k_dflt (first | refine kdg_get2 (knd := intKind _ _) (by k_asm) (by k_mem) hop hlo (intKind_is _ _ _ _) (some _) (by rfl) ?_ | refine kdg_get2 (knd := intKind _ _) (by k_asm) (by k_mem) hop hlo (intKind_is _ _ _ _) none (by rfl) ?_); (try dsimp only [Option.getD]))
  k_with "pyIter ref" => ((with_reducible show wpAny _ _ (pyIter (Value.ref _)) (fun it s₂ => TurnsAt _ _ _ _ _ (Expr.Tuple [Expr.Name (Str.ofString "its") _, _] _ _) _ _ _ it s₂) _ _); (rename Fr _ _ _ _ => lF'); (rename News _ _ _ _ => lN'); first
    | (with_unfolding_all refine' list_turns (l := p8) (vs := v8) [Str.ofString "its", Str.ofString "value"] (fun i => ∀ j p, j < i → ps8[j]? = some p → p.1 ≠ number) (by rfl) (List.mem_cons_of_mem _ (List.mem_append_left _ h8)) lF' lN' (fun j p h _ => absurd h (Nat.not_lt_zero _)) (fun i3 v3 u3 h' tk' own3 hv3 hP3 hoff3 F' N' => ?_) (fun u3 h' tk' hP3 F' N' => ?_); (obtain ⟨a3, n3, tj3, x3, kk3, e3, hmem3, hps3⟩ := hp8.get hv3; subst e3))
    | (with_unfolding_all refine' list_turns (vs := []) (nn := 0) [Str.ofString "its", Str.ofString "value"] (fun i => True) (by rfl) (.head _) lF' lN' trivial (fun i3 v3 u3 h' tk' own3 hv3 hP3 hoff3 F' N' => by simp at hv3) (fun u3 h' tk' hP3 F' N' => ?_)); all_goals (clear lF' lN'; (try simp only [List.cons_append, List.append_assoc] at N'); (try k_fold)))
  k_dflt ktr_enter
  k_steps
  · exact hret _ news _ _ (by assumption) (news_sub (by assumption) (fun q hq => List.mem_append_left _ hq)) ⟨rfl, valueOf_own (lookP_hit hP1 hps1 (by assumption))⟩
  · refine list_end (by assumption) (by assumption) (fun q hq => List.mem_append_left _ hq) (fun q hq => List.mem_append_right _ hq) (fun z hz => ?_) (find_step hP1 (by simpa using hps1) (by assumption))
    have h1 := notin_ne (x := Str.ofString "own") hz (by decide)
    have h2 := notin_ne (x := Str.ofString "value") hz (by decide)
    simp only [if_neg h1, if_neg h2, hz, Bool.false_eq_true, if_false]
  · refine hret _ news _ _ (by assumption) (news_sub (by assumption) (fun q hq => by simp [hq])) ⟨rfl, valueOf_cat (lookP_miss (by rw [← hl9]; exact hP1)) (lookP_hit hP3 hps3 (by assumption))⟩
  · refine list_end (by assumption) (by assumption) (fun q hq => List.mem_append_left _ hq) (fun q hq => List.mem_append_right _ hq) (fun z hz => ?_) (find_step hP3 (by simpa using hps3) (by assumption))
    have h1 := notin_ne (x := Str.ofString "its") hz (by decide)
    have h2 := notin_ne (x := Str.ofString "value") hz (by decide)
    simp only [if_neg h1, if_neg h2, hz, Bool.false_eq_true, if_false]
  · refine list_end (by assumption) (by assumption) (fun q hq => List.mem_cons_of_mem _ (List.mem_append_left _ hq)) (fun q hq => List.mem_cons_of_mem _ (List.mem_append_right _ hq)) (fun z hz => ?_) (fun _ => lookP_miss (by rw [← hl8]; exact hP3))
    have h1 := notin_ne (x := Str.ofString "own") hz (by decide)
    have h2 := notin_ne (x := Str.ofString "word") hz (by decide)
    have h3 := notin_ne (x := Str.ofString "its") hz (by decide)
    have h4 := notin_ne (x := Str.ofString "value") hz (by decide)
    have h5 : [Str.ofString "its", Str.ofString "value"].contains z = false := by simp [h3, h4]
    simp only [if_neg h1, if_neg h2, h5, hz, Bool.false_eq_true, if_false]
  · refine list_end (by assumption) (by assumption) (fun q hq => List.mem_cons_of_mem _ (List.mem_append_left _ hq)) (fun q hq => List.mem_cons_of_mem _ (List.mem_append_right _ hq)) (fun z hz => ?_) (fun _ => trivial)
    have h1 := notin_ne (x := Str.ofString "own") hz (by decide)
    have h2 := notin_ne (x := Str.ofString "word") hz (by decide)
    have h3 := notin_ne (x := Str.ofString "its") hz (by decide)
    have h4 := notin_ne (x := Str.ofString "value") hz (by decide)
    have h5 : [Str.ofString "its", Str.ofString "value"].contains z = false := by simp [h3, h4]
    simp only [if_neg h1, if_neg h2, h5, hz, Bool.false_eq_true, if_false]
  · refine list_end (by assumption) (by assumption) (fun q hq => List.mem_append_left _ hq) (fun q hq => List.mem_append_right _ hq) (fun z hz => ?_) (fun _ => trivial)
    have h1 := notin_ne (x := Str.ofString "own") hz (by decide)
    have h2 := notin_ne (x := Str.ofString "word") hz (by decide)
    simp only [if_neg h1, if_neg h2, hz, Bool.false_eq_true, if_false]
  · refine list_end (by assumption) (by assumption) (fun q hq => List.mem_append_left _ hq) (fun q hq => List.mem_append_right _ hq) (fun z hz => ?_) (fun _ => trivial)
    have h1 := notin_ne (x := Str.ofString "own") hz (by decide)
    have h2 := notin_ne (x := Str.ofString "word") hz (by decide)
    simp only [if_neg h1, if_neg h2, hz, Bool.false_eq_true, if_false]
  · refine list_end (by assumption) (by assumption) (fun q hq => List.mem_append_left _ hq) (fun q hq => List.mem_append_right _ hq) (fun z hz => ?_) (cat_step hP2 hps2 (by assumption))
    have h1 := notin_ne (x := Str.ofString "own") hz (by decide)
    have h2 := notin_ne (x := Str.ofString "word") hz (by decide)
    simp only [if_neg h1, if_neg h2, hz, Bool.false_eq_true, if_false]
  · exact hret _ news _ _ (by assumption) (by assumption) ⟨rfl, valueOf_none hl9 (lookP_miss (by rw [← hl9]; exact hP1)) hc hP2⟩
end Mine
namespace Mine
/-- a word whose make is written down to the ground -/
inductive ValIs (news : List (Addr × Obj)) : Value → Prop
  | none : ValIs news .none
  | tru : ValIs news (.bool true)
  | num {i : Int} {tk : Tok} : 0 ≤ i → i < 1000 → ValIs news (.int i tk)
  | sym {a : Addr} {t : Tok} {i : Int} {u : Tok} {k : Nat} : 0 ≤ i → i < 1000 → (a, tupO [.str (Str.ofString "symbol") t, .int i u] k) ∈ news → ValIs news (.ref a)
  | lst {a : Addr} {t : Tok} {i : Int} {u : Tok} {k : Nat} : 0 ≤ i → i < 1000 → (a, tupO [.str (Str.ofString "list") t, .int i u] k) ∈ news → ValIs news (.ref a)
theorem ValIs.mono {news news' : List (Addr × Obj)} {v : Value} (h : ValIs news v) (hs : ∀ q ∈ news, q ∈ news') : ValIs news' v := by
  cases h with
  | none => exact .none
  | tru => exact .tru
  | num h1 h2 => exact .num h1 h2
  | sym h1 h2 h => exact .sym h1 h2 (hs _ h)
  | lst h1 h2 h => exact .lst h1 h2 (hs _ h)
theorem shaped_sym (i : Int) : PySem.SeqAt.shaped (.tuple [.str (Str.ofString "symbol"), .int i]) = true := by
  simp [SeqAt.shaped, PyData.canLay0, PyData.canLayAll0, PyData.depth, PyData.depthAll]; decide +kernel
theorem shaped_lst (i : Int) : PySem.SeqAt.shaped (.tuple [.str (Str.ofString "list"), .int i]) = true := by
  simp [SeqAt.shaped, PyData.canLay0, PyData.canLayAll0, PyData.depth, PyData.depthAll]; decide +kernel
local macro_rules | `(tactic| walk_at $s:str) => `(tactic| k_extra $s)
set_option maxRecDepth 100000 in
set_option maxHeartbeats 8000000 in
theorem isLike_spec (prog : Program) (w : World) (mean : ExcName → Option Value) (mg mb : Str → Option Value) {v : Value} {news : List (Addr × Obj)}
    (hv : ValIs news v) : Spec prog w mean mg mb 1 193 [v, v] news (fun r news' => news = news' ∧ r = .bool true) := by
  intro dp un gd cn cs a ccd cl outer A₀ base h₀ L m s Q E B F X N T hk hd hu hret
  refine wpAny_call ?_
  k_with_none
  k_with "compareOp Eq ref ref" => (k_dflt (refine' eq_dataH ?ra ?rb ?ha ?hb ?hu ?_; (case ra => exact reads_tuple_at (News.get (by k_asm) (by assumption)) rfl rfl (ReadsAll.cons (Reads.str _ _) (ReadsAll.cons (Reads.int _ _) ReadsAll.nil))); (case rb => exact reads_tuple_at (News.get (by k_asm) (by assumption)) rfl rfl (ReadsAll.cons (Reads.str _ _) (ReadsAll.cons (Reads.int _ _) ReadsAll.nil))); (case ha => first | exact shaped_sym _ | exact shaped_lst _); (case hb => first | exact shaped_sym _ | exact shaped_lst _); (case hu => ktr_units)); (simp only [PyData.eqv, PyData.eqvAll, beq_self_eq_true, Bool.and_true, Bool.true_and, decide_true]); (try dsimp only))
  cases hv
  all_goals (
    k_dflt ktr_enter
    k_steps)
  all_goals exact hret _ _ _ _ (by assumption) (by assumption) ⟨rfl, by first | rfl | simp⟩
end Mine
namespace Mine
local macro_rules | `(tactic| walk_at $s:str) => `(tactic| k_extra $s)
local macro_rules | `(tactic| k_all) => `(tactic| assumption)
local macro_rules | `(tactic| ktr_call $d $l) => `(tactic| (k_dflt (refine' draw_use (d := $d) (l := $l) ?U ?hl ?hk ?hld ?hc ?hc2 ?hm ?hm2 ?B ?F ?X ?N ?T ?hkk ?hd ?hu ?_; (case N => k_asm); (case U => k_updF); (case hl => k_mem); (case hk => assumption); (case hld => assumption); (case hc => omega); (case hc2 => omega); (case hm => omega); (case hm2 => omega); (case B => k_asm); (case F => k_asm); (case X => k_asm); (case T => k_asm); (case hkk => first | exact rfl | assumption); (case hd => ktr_room); (case hu => ktr_units))))
/-- between the turns of the loop that draws pairs -/
def PairsJ (d l fnd num : Addr) (nd nl : Nat) (c0 : Int) (ws : List Value) (rest : List (Addr × Obj)) (m₀ : Str → Option Value) (i : Nat) (m : Str → Option Value) (nx : List (Addr × Obj)) : Prop :=
  ∃ (c : Int) (tc : Tok) (vf : List Value) (nf : Nat) (vs : List Value) (ns : List Int) (nn : Nat) (ps : List (Int × Value)) (new : List (Addr × Obj)),
    (∀ z, [Str.ofString "turn", Str.ofString "number"].contains z = false → m z = m₀ z) ∧
    nx = (d, listOf #[.ref l, .int c tc] nd) :: (l, listOf ws.toArray nl) :: (fnd, listOf vf.toArray nf) :: (num, listOf vs.toArray nn) :: (new ++ rest) ∧
    c0 ≤ c ∧ c ≤ c0 + 2 * (i : Int) ∧ IntsAre vs ns ∧ ns.length + i = 4 ∧ (∀ n ∈ ns, 1 ≤ n ∧ n ≤ 4) ∧ ps.length = i ∧ PlistIs new vf ps ∧ (∀ p ∈ ps, 1 ≤ p.1 ∧ p.1 ≤ 4 ∧ ValIs new p.2) ∧ ∀ p ∈ new, num < p.1
theorem off3 {a b c : List (Addr × Obj)} {x : Addr} (ha : ∀ p ∈ a, p.1 ≠ x) (hb : ∀ p ∈ b, p.1 ≠ x) (hc : ∀ p ∈ c, p.1 ≠ x) : ∀ p ∈ a ++ (b ++ c), p.1 ≠ x := by
  intro p hp
  rcases List.mem_append.mp hp with h | h
  · exact ha p h
  · rcases List.mem_append.mp h with h | h
    · exact hb p h
    · exact hc p h
section
variable {prog : Program} {w : World} {A : Around} {E : Value → Shared → Prop} {s : Shared} {env : Env} {h₀ : Heap} {x : Str} {body : List Stmt} {Q : Flow → Shared → Prop}
theorem pairs_iter {r D fnd num d l : Addr} {o : Obj} {nd nl n : Nat} {c b₀ : Int} {tc t1 t2 t3 t4 t₀ u₀ v₀ : Tok} {ws : List Value} {rest : List (Addr × Obj)} {m₀ : Str → Option Value}
    (hh : A.handled = none) (hr : IsRange s.heap r 0 b₀ 1 t₀ u₀ v₀) (hb : b₀ = (n : Int)) (hz : n ≤ 3) (F : Fr h₀ env.locals s.heap m₀)
    (N : News h₀ env.locals s.heap ((D, o) :: (num, listOf #[.int 1 t1, .int 2 t2, .int 3 t3, .int 4 t4] 0) :: (fnd, listOf #[] 0) :: (d, listOf #[.ref l, .int c tc] nd) :: (l, listOf ws.toArray nl) :: rest))
    (hrd : ∀ p ∈ rest, p.1 ≠ d) (hdf : d < fnd) (hfn : fnd < num) (hrf : ∀ p ∈ rest, p.1 < fnd)
    (turn : ∀ (i : Nat) t (u : Str → Option Value) h tk own c1 tc1 vf nf vs ns nn ps new, i < n → OwnOff own (((d, listOf #[.ref l, .int c1 tc1] nd) :: (l, listOf ws.toArray nl) :: (fnd, listOf vf.toArray nf) :: (num, listOf vs.toArray nn) :: (new ++ rest)).map (·.1)) →
      c ≤ c1 → c1 ≤ c + 2 * (i : Int) → IntsAre vs ns → ns.length + i = 4 → (∀ n ∈ ns, 1 ≤ n ∧ n ≤ 4) → ps.length = i → PlistIs new vf ps → (∀ p ∈ ps, 1 ≤ p.1 ∧ p.1 ≤ 4 ∧ ValIs new p.2) → (∀ p ∈ new, num < p.1) →
      (∀ p ∈ new ++ (rest ++ own), p.1 ≠ d) → (∀ p ∈ new ++ (rest ++ own), p.1 ≠ fnd) → (∀ p ∈ new ++ (rest ++ own), p.1 ≠ num) →
      Fr h₀ env.locals h (fun y => if y = x then some (.int (i : Int) t) else if [Str.ofString "turn", Str.ofString "number"].contains y then u y else m₀ y) → News h₀ env.locals h ((d, listOf #[.ref l, .int c1 tc1] nd) :: (l, listOf ws.toArray nl) :: (fnd, listOf vf.toArray nf) :: (num, listOf vs.toArray nn) :: (new ++ (rest ++ own))) →
      wpAny (model prog w) A (execs body env) (InvPostG h₀ env.locals (PairsJ d l fnd num nd nl c ws rest m₀ (i + 1)) own { s with heap := h, toks := tk } Q) E { s with heap := h, toks := tk })
    (done : ∀ (u : Str → Option Value) h tk c1 tc1 vf nf vs ns nn ps new, c ≤ c1 → c1 ≤ c + 2 * (n : Int) → ps.length = n → PlistIs new vf ps → (∀ p ∈ ps, 1 ≤ p.1 ∧ p.1 ≤ 4 ∧ ValIs new p.2) → (∀ p ∈ new, num < p.1) → IntsAre vs ns →
      Fr h₀ env.locals h (fun y => if [Str.ofString "turn", Str.ofString "number"].contains y then u y else m₀ y) → News h₀ env.locals h ((d, listOf #[.ref l, .int c1 tc1] nd) :: (l, listOf ws.toArray nl) :: (fnd, listOf vf.toArray nf) :: (num, listOf vs.toArray nn) :: (new ++ rest)) → Q .next { s with heap := h, toks := tk }) :
    wpAny (model prog w) A (pyIter (.ref r)) (fun it s₂ => LoopAtV prog w A h₀ env x body Q E it s₂) E s := by
  refine range_inv (PairsJ d l fnd num nd nl c ws rest m₀) hh hr hb (by omega) F (news_sub (b := (d, listOf #[.ref l, .int c tc] nd) :: (l, listOf ws.toArray nl) :: (fnd, listOf [].toArray 0) :: (num, listOf [.int 1 t1, .int 2 t2, .int 3 t3, .int 4 t4].toArray 0) :: ([] ++ rest)) N ?_) ?_ ?_ ?_
  · intro p hp
    simp only [List.mem_cons, List.nil_append] at hp ⊢
    rcases hp with h | h | h | h | h <;> simp [h]
  · exact ⟨c, tc, [], 0, _, [1, 2, 3, 4], 0, [], [], fun _ _ => rfl, rfl, by omega, by omega, .cons _ _ (.cons _ _ (.cons _ _ (.cons _ _ .nil))), rfl, by decide, rfl, .nil, fun _ h => (nomatch h), fun _ h => (nomatch h)⟩
  · rintro i t m₁ nx h tk own hi hoff ⟨c1, tc1, vf, nf, vs, ns, nn, ps, new, hm, rfl, a1, a2, a3, a4, a5, a6, a7, a8, a9⟩ F₁ N₁
    rw [frame_st hm] at F₁
    simp only [List.cons_append, List.append_assoc] at N₁
    refine turn i t m₁ h tk own c1 tc1 vf nf vs ns nn ps new hi hoff a1 a2 a3 a4 a5 a6 a7 a8 a9 (off3 ?_ hrd ?_) (off3 ?_ ?_ ?_) (off3 ?_ ?_ ?_) F₁ N₁
    · exact fun p hp => Nat.ne_of_gt (Nat.lt_trans hdf (Nat.lt_trans hfn (a9 p hp)))
    · exact fun p hp => hoff p hp d (by simp)
    · exact fun p hp => Nat.ne_of_gt (Nat.lt_trans hfn (a9 p hp))
    · exact fun p hp => Nat.ne_of_lt (hrf p hp)
    · exact fun p hp => hoff p hp fnd (by simp)
    · exact fun p hp => Nat.ne_of_gt (a9 p hp)
    · exact fun p hp => Nat.ne_of_lt (Nat.lt_trans (hrf p hp) hfn)
    · exact fun p hp => hoff p hp num (by simp)
  · rintro m₁ nx h tk ⟨c1, tc1, vf, nf, vs, ns, nn, ps, new, hm, rfl, a1, a2, a3, a4, a5, a6, a7, a8, a9⟩ F₁ N₁
    rw [frame_st hm] at F₁
    exact done m₁ h tk c1 tc1 vf nf vs ns nn ps new a1 a2 a6 a7 a8 a9 a3 F₁ N₁
theorem val_menu {news : List (Addr × Obj)} {v : Value} {T1 T2 : Addr} {t7 a b c e : Tok} {k1 k2 : Nat} (hv : v ∈ [Value.none, Value.bool true, Value.int 7 t7, Value.ref T1, Value.ref T2])
    (h1 : (T1, tupO [.str (Str.ofString "symbol") a, .int 2 b] k1) ∈ news) (h2 : (T2, tupO [.str (Str.ofString "list") c, .int 5 e] k2) ∈ news) : ValIs news v := by
  simp only [List.mem_cons, List.not_mem_nil, or_false] at hv
  rcases hv with rfl | rfl | rfl | rfl | rfl
  · exact .none
  · exact .tru
  · exact .num (by decide) (by decide)
  · exact .sym (by decide) (by decide) h1
  · exact .lst (by decide) (by decide) h2
theorem PlistIs.snoc {news : List (Addr × Obj)} {vs : List Value} {ps : List (Int × Value)} {v : Value} {p : Int × Value} (h : PlistIs news vs ps) (hv : PairIs news v p) : PlistIs news (vs ++ [v]) (ps ++ [p]) := by
  induction h with
  | nil => exact .cons hv .nil
  | cons h _ ih => exact .cons h ih
theorem pairs_end {P LL T1 T2 fnd num d l : Addr} {ol : Obj} {nd nl nf nn' i : Nat} {c c1 y : Int} {tc2 ty t7 a1 a2 a3 a4 : Tok} {v : Value} {ws vf vs' : List Value} {ns ns' : List Int} {ps : List (Int × Value)} {new rest own : List (Addr × Obj)} {m₀ m' : Str → Option Value} {s₁ : Shared} {h' : Heap} {tk : Nat} {L : Addr}
    (F : Fr h₀ L h' m') (N : News h₀ L h' ((P, tupO [.int y ty, v] 0) :: (LL, ol) :: (T2, tupO [.str (Str.ofString "list") a3, .int 5 a4] 0) :: (T1, tupO [.str (Str.ofString "symbol") a1, .int 2 a2] 0) :: (d, listOf #[.ref l, .int (c1 + 1 + 1) tc2] nd) :: (l, listOf ws.toArray nl) :: (fnd, listOf (vf.toArray.push (.ref P)) (nf + 1)) :: (num, listOf vs'.toArray nn') :: (new ++ (rest ++ own))))
    (hoff : ∀ b ∈ [d, l, fnd, num], ∀ p ∈ own, p.1 ≠ b) (hoff2 : ∀ p ∈ new ++ rest, ∀ q ∈ own, q.1 ≠ p.1) (hc1 : c ≤ c1) (hc2 : c1 ≤ c + 2 * (i : Int)) (hvs : IntsAre vs' ns') (hlen : ns'.length + 1 = ns.length) (hns : ns.length + i = 4) (hsub : ∀ z ∈ ns', z ∈ ns) (hb : ∀ n ∈ ns, 1 ≤ n ∧ n ≤ 4) (hy : y ∈ ns)
    (hv : v ∈ [Value.none, Value.bool true, Value.int 7 t7, Value.ref T1, Value.ref T2]) (hps : ps.length = i) (hpl : PlistIs new vf ps) (hpv : ∀ p ∈ ps, 1 ≤ p.1 ∧ p.1 ≤ 4 ∧ ValIs new p.2) (hnew : ∀ p ∈ new, num < p.1)
    (n1 : num < T1) (n2 : num < T2) (n3 : num < P) (o1 : AllLt T1 (new ++ (rest ++ own))) (o2 : AllLt T2 (new ++ (rest ++ own))) (o3 : AllLt P (new ++ (rest ++ own)))
    (hm : ∀ z, [Str.ofString "turn", Str.ofString "number"].contains z = false → m' z = m₀ z) :
    InvEndG h₀ L (PairsJ d l fnd num nd nl c ws rest m₀ (i + 1)) own s₁ { s₁ with heap := h', toks := tk } := by
  have e : (vf ++ [Value.ref P]).toArray = vf.toArray.push (.ref P) := by simp
  rw [← e] at N
  refine InvEndG.intro (nx := (d, listOf #[.ref l, .int (c1 + 1 + 1) tc2] nd) :: (l, listOf ws.toArray nl) :: (fnd, listOf (vf ++ [Value.ref P]).toArray (nf + 1)) :: (num, listOf vs'.toArray nn') :: (((P, tupO [.int y ty, v] 0) :: (T2, tupO [.str (Str.ofString "list") a3, .int 5 a4] 0) :: (T1, tupO [.str (Str.ofString "symbol") a1, .int 2 a2] 0) :: new) ++ rest)) F N ?_ ?_ ?_ ?_
  · refine ⟨c1 + 1 + 1, tc2, _, nf + 1, vs', ns', nn', ps ++ [(y, v)], _, hm, rfl, by omega, by omega, hvs, by omega, fun n hn => hb n (hsub n hn), by simp [hps], ?_, ?_, ?_⟩
    · exact (hpl.mono fun q hq => by simp [hq]).snoc (.mk (.head _))
    · intro p hp
      rcases List.mem_append.mp hp with h | h
      · obtain ⟨h1, h2, h3⟩ := hpv p h
        exact ⟨h1, h2, h3.mono fun q hq => by simp [hq]⟩
      · rw [List.mem_singleton.mp h]
        exact ⟨(hb y hy).1, (hb y hy).2, val_menu hv (.tail _ (.tail _ (.head _))) (.tail _ (.head _))⟩
    · intro p hp
      simp only [List.mem_cons] at hp
      rcases hp with rfl | rfl | rfl | h
      · exact n3
      · exact n2
      · exact n1
      · exact hnew p h
  · have f1 := ktn_ltOf o1
    have f2 := ktn_ltOf o2
    have f3 := ktn_ltOf o3
    intro p hp b hbm
    simp only [List.map_cons, List.map_append, List.cons_append, List.mem_cons, List.mem_append] at hbm
    have ho : p ∈ new ++ (rest ++ own) := by simp [hp]
    rcases hbm with rfl | rfl | rfl | rfl | rfl | rfl | rfl | h | h
    · exact hoff _ (by simp) p hp
    · exact hoff _ (by simp) p hp
    · exact hoff _ (by simp) p hp
    · exact hoff _ (by simp) p hp
    · exact Nat.ne_of_lt (f3 p ho)
    · exact Nat.ne_of_lt (f2 p ho)
    · exact Nat.ne_of_lt (f1 p ho)
    · obtain ⟨q, hq, rfl⟩ := List.mem_map.mp h
      exact hoff2 q (by simp [hq]) p hp
    · obtain ⟨q, hq, rfl⟩ := List.mem_map.mp h
      exact hoff2 q (by simp [hq]) p hp
  · intro p hp
    simp only [List.mem_cons, List.mem_append] at hp ⊢
    rcases hp with h | h | h | h | h
    · simp [h]
    · simp [h]
    · simp [h]
    · simp [h]
    · rcases h with (h | h | h | h) | h <;> simp [h]
  · intro p hp
    simp [hp]
end
set_option maxRecDepth 100000 in
set_option maxHeartbeats 8000000 in
theorem pairs_spec (prog : Program) (w : World) (mean : ExcName → Option Value) (mg mb : Str → Option Value) {d l : Addr} {nd nl : Nat} {c : Int} {tc tm : Tok} {ws : List Value} {ks : List Int} {rest : List (Addr × Obj)}
    (hdk : DeckIs ws ks) (hld : l ≠ d) (hr : ∀ p ∈ rest, p.1 ≠ d) (hc : 0 ≤ c) (hc2 : c < 90000) :
    Spec prog w mean mg mb 2 179 [.ref d, .int 3 tm] ((d, listOf #[.ref l, .int c tc] nd) :: (l, listOf ws.toArray nl) :: rest) (fun r news' => ∃ a vf nf ps new c1 tc1, r = .ref a ∧ news' = (d, listOf #[.ref l, .int c1 tc1] nd) :: (l, listOf ws.toArray nl) :: (a, listOf vf.toArray nf) :: (new ++ rest) ∧ PlistIs new vf ps ∧ ps.length ≤ 3 ∧ (∀ p ∈ ps, 1 ≤ p.1 ∧ p.1 ≤ 4 ∧ ValIs new p.2) ∧ c ≤ c1 ∧ c1 ≤ c + 7 ∧ d < a ∧ l < a ∧ (∀ q ∈ rest, q.1 < a) ∧ ∀ p ∈ new, a < p.1) := by
  intro dp un gd cn cs a ccd cl outer A₀ base h₀ L m s Q E B F X N T hk hd hu hret
  refine wpAny_call ?_
  k_with_none
  k_with "call ref" => ((with_reducible show wpAny _ _ (call (Value.ref 172) _) _ _ _); ktr_call d l; intro k' tr' tc' h' tk' hk0' hk1' F' N'; (try dsimp only at N'); (try k_fold); (try dsimp only))
  k_with "call type:range" => ((rename Fr _ _ _ _ => F'); (rename News _ _ _ _ => N'); (with_unfolding_all refine range1_rows F' N' ?_); intro h' tk' t1' t2' t3' rg' F' N' keep')
  k_with "pyIter ref" => ((rename Fr _ _ _ _ => lF'); (rename News _ _ _ _ => lN'); (rename IsRange _ _ _ _ _ _ _ _ => rgX); (with_unfolding_all refine' pairs_iter (n := k'.toNat) (by rfl) rgX (by omega) (by omega) lF' lN' hr (by show @LT.lt Nat _ _ _; omega) (by show @LT.lt Nat _ _ _; omega) (by (repeat (rename _ ∧ _ => hc9; obtain ⟨_, _⟩ := hc9)); exact ktn_ltOf (by assumption)) (fun i1 t1 u1 h' tk' own1 c1 tc1 vf1 nf1 vs1 ns1 nn1 ps1 new1 hi1 hoff1 hc11 hc12 hvs1 hns1 hns2 hps1 hpl1 hpv1 hnew1 hTd hTf hTn F' N' => ?_) (fun u1 h' tk' c1 tc1 vf1 nf1 vs1 ns1 nn1 ps1 new1 hc11 hc12 hps1 hpl1 hpv1 hnew1 hvs1 F' N' => ?_)); all_goals (clear lF' lN'; (try k_fold)))
  k_with "call builtin:list.pop" => (k_dflt (refine' popI ?F ?N ?U ?i ?h0 ?h1 ?hz ?_; (case F => k_asm); (case N => k_asm); (case U => k_updF); (case i => assumption); (case h0 => omega); (case h1 => omega); (case hz => omega)); intro h' y' t' vs' ns' F' N' hvs' hy' hlen' hsub'; (try dsimp only at N'); (try dsimp only))
  k_with "subscriptTail" => ((with_reducible show wpAny _ _ (subscriptTail _ _ (Value.ref _) (Value.int _ _)) _ _ _); k_dflt (refine' itemV (vs := [Value.none, Value.bool true, _, _, _]) ?N ?m ?h0 ?h1 ?hz ?_; (case N => k_asm); (case m => exact .head _); (case h0 => omega); (case h1 => (show _ < (5 : Int)); omega); (case hz => exact Nat.le_of_ble_eq_true rfl)); intro v' hv'; (try dsimp only))
  k_with "call builtin:list.append" => (k_dflt (refine' append_K ?k1 ?k2 ?k3 ?_ ?z; (case k1 => k_asm); (case k2 => k_asm); (case k3 => k_upd); (case z => (rw [List.size_toArray, hpl1.length, sizeLine_eq]; omega))); intro h' F' N'; (try dsimp only))
  k_dflt ktr_enter
  k_steps
  · (repeat (rename _ ∧ _ => hc9; obtain ⟨_, _⟩ := hc9))
    refine pairs_end (by assumption) (by assumption) (fun b hb p hp => hoff1 p hp b ?_) (fun p hp q hq => hoff1 q hq p.1 (List.mem_map.mpr ⟨p, List.mem_cons_of_mem _ (List.mem_cons_of_mem _ (List.mem_cons_of_mem _ (List.mem_cons_of_mem _ hp))), rfl⟩)) hc11 hc12 hvs' hlen' hns1 hsub' hns2 hy' hv' hps1 hpl1 hpv1 hnew1 (by show @LT.lt Nat _ _ _; omega) (by show @LT.lt Nat _ _ _; omega) (by show @LT.lt Nat _ _ _; omega) (by assumption) (by assumption) (by assumption) (fun z hz => ?_)
    · simp only [List.mem_cons, List.not_mem_nil, or_false] at hb
      rcases hb with rfl | rfl | rfl | rfl <;> simp
    · have h1 := notin_ne (x := Str.ofString "turn") hz (by decide)
      have h2 := notin_ne (x := Str.ofString "number") hz (by decide)
      simp only [if_neg h1, if_neg h2, hz, Bool.false_eq_true, if_false]
  · (repeat (rename _ ∧ _ => hc9; obtain ⟨_, _⟩ := hc9))
    refine hret _ _ _ _ (by assumption) (news_sub (b := (d, listOf #[.ref l, .int c1 tc1] nd) :: (l, listOf ws.toArray nl) :: (_, listOf vf1.toArray nf1) :: (new1 ++ rest)) (by assumption) (fun q hq => ?_)) ⟨_, vf1, nf1, ps1, new1, c1, tc1, rfl, rfl, hpl1, by omega, hpv1, by omega, by omega, by show @LT.lt Nat _ _ _; omega, by show @LT.lt Nat _ _ _; omega, ktn_ltOf (by assumption), fun p hp => Nat.lt_trans ?_ (hnew1 p hp)⟩
    · simp only [List.mem_cons, List.mem_append] at hq ⊢
      rcases hq with h | h | h | h <;> simp [h]
    · show @LT.lt Nat _ _ _; omega
end Mine
namespace Mine
local macro_rules | `(tactic| ktn_call $x $c) => `(tactic| (k_dflt (refine' Spec.use $x ?B ?F ?X ?N ?T ?hk ?hd ?hu ?ret; (case B => k_asm); (case F => k_asm); (case X => k_asm); (case N => k_asm); (case T => k_asm); (case hk => first | exact rfl | assumption); (case hd => ktr_room); (case hu => ktr_units))))
local macro_rules | `(tactic| ktr_call $x $c) => `(tactic| (k_dflt (refine' Spec.use ($x ?hv) ?B ?F ?X ?N ?T ?hk ?hd ?hu ?ret; (case N => k_asm); (case hv => exact $c); (case B => k_asm); (case F => k_asm); (case X => k_asm); (case T => k_asm); (case hk => first | exact rfl | assumption); (case hd => ktr_room); (case hu => ktr_units))))
local macro_rules | `(tactic| walk_at $s:str) => `(tactic| k_extra $s)
theorem comp_end {h₀ : Heap} {L I C D : Addr} {m : Str → Option Value} {s₁ : Shared} {oI oC oD : Obj} {S : List (Addr × Obj) → Prop} {rest : Value → List (Addr × Obj) → Prop} {y : Value} {h' : Heap} {tk : Nat} {news' : List (Addr × Obj)}
    (F : Fr h₀ L h' m) (N : News h₀ L h' ((I, oI) :: (C, oC) :: (D, oD) :: news')) (off : LCg.Off3 I C D news') (hS : S news') (r : rest y news') :
    LCg.CompEnd h₀ L m s₁ I oI C oC D oD S rest y { s₁ with heap := h', toks := tk } := LCg.CompEnd.intro F N news' (fun _ h => h) off hS r
local macro_rules | `(tactic| walk_at "CompEnd") => `(tactic| (k_dflt (refine comp_end (by assumption) (by assumption) (by assumption) (.inr ⟨_, .head _, rfl, _, rfl⟩) ?_)))
local macro_rules | `(tactic| k_mem) => `(tactic| first | exact List.mem_cons_of_mem _ (by ktr_member) | exact List.mem_cons_of_mem _ (List.mem_cons_of_mem _ (by ktr_member)) | exact List.mem_cons_of_mem _ (List.mem_cons_of_mem _ (List.mem_cons_of_mem _ (by ktr_member))))
local macro_rules | `(tactic| ktn_open) => `(tactic| (refine' code_defC ?k1 ?k2 ?k3 ?k4 ?k5 ?kA ?kF ?kK ?k6 ?k7 ?k8 ?k9 ?kB ?kD ?_ ?c2 ?c3 ?c4; (case kA => exact rfl); (case kF => exact rfl); (case kK => assumption); (case k1 => k_asm); (case k2 => k_asm); (case k3 => k_asm); (case k4 => k_asm); (case k5 => k_asm); (case k6 => k_is); (case k7 => k_is); (case k8 => ktr_room); (case k9 => exact BindsTo.of_eq rfl); (case kB => exact rfl); (case kD => decide +kernel); (case c2 => exact rfl); (case c3 => exact rfl); (case c4 => exact rfl); k_whole; intro g' L' h' tk' cells' FG' F' N' Y' B' X' T' l1; (try k_lt l1); k_cells Y'; (try simp only [List.cons_append, List.nil_append] at N'); (try dsimp only); (try k_fold)))
/-- what is asked of: nil, True, or a list of things -/
inductive ListIs (news : List (Addr × Obj)) : Value → Option (List V) → Bool → Prop
  | nil : ListIs news .none none false
  | tru : ListIs news (.bool true) none true
  | l0 {a : Addr} {t : Tok} {k : Nat} : (a, tupO [.str (Str.ofString "list") t] k) ∈ news → ListIs news (.ref a) (some []) true
  | l1 {a : Addr} {t : Tok} {k : Nat} {x : Value} {dx : V} : (a, tupO [.str (Str.ofString "list") t, x] k) ∈ news → VIs news x dx → ListIs news (.ref a) (some [dx]) true
  | l2 {a : Addr} {t : Tok} {k : Nat} {x y : Value} {dx dy : V} : (a, tupO [.str (Str.ofString "list") t, x, y] k) ∈ news → VIs news x dx → VIs news y dy → ListIs news (.ref a) (some [dx, dy]) true
  | l3 {a : Addr} {t : Tok} {k : Nat} {x y z : Value} {dx dy dz : V} : (a, tupO [.str (Str.ofString "list") t, x, y, z] k) ∈ news → VIs news x dx → VIs news y dy → VIs news z dz → ListIs news (.ref a) (some [dx, dy, dz]) true
theorem ListIs.mono {news news' : List (Addr × Obj)} {v : Value} {o : Option (List V)} {b : Bool} (h : ListIs news v o b) (hs : ∀ q ∈ news, q ∈ news') : ListIs news' v o b := by
  cases h with
  | nil => exact .nil
  | tru => exact .tru
  | l0 h => exact .l0 (hs _ h)
  | l1 h h1 => exact .l1 (hs _ h) (h1.mono hs)
  | l2 h h1 h2 => exact .l2 (hs _ h) (h1.mono hs) (h2.mono hs)
  | l3 h h1 h2 h3 => exact .l3 (hs _ h) (h1.mono hs) (h2.mono hs) (h3.mono hs)
set_option maxRecDepth 100000 in
set_option maxHeartbeats 8000000 in
theorem eqNone_spec (prog : Program) (w : World) (mean : ExcName → Option Value) (mg mb : Str → Option Value) {v : Value} {o : Option (List V)} {b : Bool} {news : List (Addr × Obj)}
    (hv : ListIs news v o b) :
    Spec prog w mean mg mb 1 21 [v, .none] news (fun r news' => news = news' ∧ r = .bool (!b)) := by
  intro dp un gd cn cs a ccd cl outer A₀ base h₀ L m s Q E B F X N T hk hd hu hret
  refine wpAny_call ?_
  k_with_none
  k_with "compareOp Eq" => ((with_reducible show wpAny _ _ (compareOp CmpOp.Eq (Value.ref _) Value.none) _ _ _); k_dflt (refine' cmp_ofEq (PySem.SeqAt.RcAt.tuple_none ?hl ?hu _ _ _ _ ?_); (case hl => exact News.isTup (by k_asm) (by assumption)); (case hu => ktr_units)); (try dsimp only))
  cases hv
  all_goals (
    k_dflt ktr_enter
    k_steps)
  all_goals exact hret _ _ _ _ (by assumption) (by assumption) ⟨rfl, rfl⟩
set_option maxRecDepth 100000 in
set_option maxHeartbeats 8000000 in
theorem isNil_spec (prog : Program) (w : World) (mean : ExcName → Option Value) (mg mb : Str → Option Value) {rx rdx lx ldx dd pd p8 : Addr} {ps8 : List (Int × Value)} {v : Value} {o : Option (List V)} {b : Bool} {news : List (Addr × Obj)}
    (W : World8 prog w news rx rdx lx ldx dd pd p8 ps8) (hv : ListIs news v o b) :
    Spec prog w mean mg mb 2 56 [.ref rx, v] news (fun r news' => news = news' ∧ r = .bool (!b)) := by
  obtain ⟨hr, ⟨t0, t1, t2, t3, t4, t5, t6, t7, t8, u0, u1, u2, u3, u4, hrd⟩, hl, ⟨s0, s1, s2, s3, v0, hld⟩, hlo, ⟨opd, hpd, hop⟩, ⟨v8, n8, h8, hp8⟩, hlen8⟩ := W
  intro dp un gd cn cs a ccd cl outer A₀ base h₀ L m s Q E B F X N T hk hd hu hret
  refine wpAny_call ?_
  k_with_none
  k_with "call ref" => (ktn_call (eqNone_spec prog w mean mg mb hv) 0; intro r' news' h' tk' F' N' hpost'; obtain ⟨rfl, rfl⟩ := hpost'; (try dsimp only); (try k_fold))
  k_dflt ktr_enter
  k_steps
  exact hret _ _ _ _ (by assumption) (by assumption) ⟨rfl, rfl⟩
inductive VAll (news : List (Addr × Obj)) : List Value → List V → Prop
  | nil : VAll news [] []
  | cons {v : Value} {d : V} {vs : List Value} {ds : List V} : VIs news v d → VAll news vs ds → VAll news (v :: vs) (d :: ds)
def ItemsOut (o : Option (List V)) (news : List (Addr × Obj)) (r : Value) (news' : List (Addr × Obj)) : Prop :=
  (o = none ∧ r = .none ∧ news = news') ∨ ∃ ds a xs n, o = some ds ∧ r = .ref a ∧ news' = (a, listOf xs.toArray n) :: news ∧ VAll news xs ds ∧ ∀ p ∈ news, p.1 < a
set_option maxRecDepth 100000 in
set_option maxHeartbeats 8000000 in
theorem items_spec (prog : Program) (w : World) (mean : ExcName → Option Value) (mg mb : Str → Option Value) {lx : Addr} {v : Value} {o : Option (List V)} {news : List (Addr × Obj)}
    (hv : ListIs news v o true) :
    Spec prog w mean mg mb 1 139 [.ref lx, v] news (ItemsOut o news) := by
  intro dp un gd cn cs a ccd cl outer A₀ base h₀ L m s Q E B F X N T hk hd hu hret
  refine wpAny_call ?_
  k_with_none
  k_with "subscriptTail Name Slice ref ref" => ((rename Fr _ _ _ _ => F'); (rename News _ _ _ _ => N'); (with_unfolding_all refine' tupDrop1 F' N' (by assumption) (by simp) ?_); intro D' h' F' N' l1)
  cases hv
  all_goals (
    k_dflt ktr_enter
    k_steps)
  · exact hret _ news _ _ (by assumption) (by assumption) (.inl ⟨rfl, rfl, rfl⟩)
  all_goals (
    (repeat (rename _ ∧ _ => hc9; obtain ⟨_, _⟩ := hc9))
    rename News h₀ L _ _ => kN
    exact hret _ (_ :: news) _ _ (by assumption) (news_sub kN (cons_sub fun q hq => .tail _ hq)) (.inr ⟨_, _, _, _, rfl, rfl, rfl, (by repeat (first | exact VAll.nil | (refine VAll.cons (by assumption) ?_))), ktn_ltOf (by assumption)⟩))
/-- the member's answer -/
def memberOf (number : Int) : Option (List V) → Bool → Bool
  | some ds, _ => (ds.map symNo).any (· == number)
  | none, b => b
set_option maxRecDepth 100000 in
set_option maxHeartbeats 8000000 in
theorem member_spec (prog : Program) (w : World) (mean : ExcName → Option Value) (mg mb : Str → Option Value) {rx rdx lx ldx dd pd p8 : Addr} {ps8 : List (Int × Value)} {number : Int} {tm : Tok} {v : Value} {o : Option (List V)} {b : Bool} {news : List (Addr × Obj)}
    (W : World8 prog w news rx rdx lx ldx dd pd p8 ps8) (hv : ListIs news v o b) :
    Spec prog w mean mg mb 3 75 [.ref rx, .int number tm, v] news (fun r news' => news = news' ∧ r = .bool (memberOf number o b)) := by
  have W0 := W
  have hv0 := hv
  obtain ⟨hr, ⟨t0, t1, t2, t3, t4, t5, t6, t7, t8, u0, u1, u2, u3, u4, hrd⟩, hl, ⟨s0, s1, s2, s3, v0, hld⟩, hlo, ⟨opd, hpd, hop⟩, ⟨v8, n8, h8, hp8⟩, hlen8⟩ := W
  intro dp un gd cn cs a ccd cl outer A₀ base h₀ L m s Q E B F X N T hk hd hu hret
  refine wpAny_call ?_
  k_with_none
  k_with "call ref" => ((with_reducible show wpAny _ _ (call (Value.ref 56) _) _ _ _); ktn_call (isNil_spec prog w mean mg mb (W0.mono sub2) (hv0.mono sub2)) 0; intro r' news' h' tk' F' N' hpost'; obtain ⟨rfl, rfl⟩ := hpost'; (try dsimp only); (try k_fold))
  k_with "call ref" => ((with_reducible show wpAny _ _ (call (Value.ref 139) _) _ _ _); ktn_call (items_spec prog w mean mg mb (hv0.mono sub2)) 0; intro r' news' h' tk' F' N' hpost'; (rcases hpost' with ⟨e1, rfl, rfl⟩ | ⟨ds1, a1, xs1, n1, e1, rfl, rfl, hxs1, hlt1⟩) <;> (cases e1) <;> (k_dflt (repeat (rename VAll _ _ _ => hx9; cases hx9))) <;> (try dsimp only) <;> (try k_fold))
  k_with "call ref" => ((with_reducible show wpAny _ _ (call (Value.ref 125) _) _ _ _); ktr_call (numberOf_spec prog w mean mg mb) (VIs.mono (by assumption) sub4); intro r' news' h' tk' F' N' hpost'; obtain ⟨tr', hn', hr'⟩ := hpost'; subst hn'; subst hr'; (try dsimp only); (try k_fold))
  cases hv
  all_goals (
    k_dflt ktn_open
    k_steps)
  all_goals (refine hret _ news _ _ (by assumption) (news_sub (by assumption) (fun q hq => by simp [hq])) ⟨rfl, ?_⟩; simp_all [memberOf])
end Mine
namespace Mine
local macro_rules | `(tactic| walk_at $s:str) => `(tactic| k_extra $s)
local macro_rules | `(tactic| k_all) => `(tactic| assumption)
local macro_rules | `(tactic| k_mem) => `(tactic| exact List.mem_cons_of_mem _ (List.mem_cons_of_mem _ (List.mem_cons_of_mem _ (List.mem_cons_of_mem _ (by ktr_member)))))
local macro_rules | `(tactic| ktr_call $d $l) => `(tactic| (k_dflt (refine' draw_use (d := $d) (l := $l) ?U ?hl ?hk ?hld ?hc ?hc2 ?hm ?hm2 ?B ?F ?X ?N ?T ?hkk ?hd ?hu ?_; (case N => k_asm); (case U => k_updF); (case hl => k_mem); (case hk => assumption); (case hld => assumption); (case hc => omega); (case hc2 => omega); (case hm => omega); (case hm2 => omega); (case B => k_asm); (case F => k_asm); (case X => k_asm); (case T => k_asm); (case hkk => first | exact rfl | assumption); (case hd => ktr_room); (case hu => ktr_units))))
local macro_rules | `(tactic| ktn_open) => `(tactic| (refine' code_defC ?k1 ?k2 ?k3 ?k4 ?k5 ?kA ?kF ?kK ?k6 ?k7 ?k8 ?k9 ?kB ?kD ?_ ?c2 ?c3 ?c4; (case kA => exact rfl); (case kF => exact rfl); (case kK => assumption); (case k1 => k_asm); (case k2 => k_asm); (case k3 => k_asm); (case k4 => k_asm); (case k5 => k_asm); (case k6 => k_is); (case k7 => k_is); (case k8 => ktr_room); (case k9 => exact BindsTo.of_eq rfl); (case kB => exact rfl); (case kD => decide +kernel); (case c2 => exact rfl); (case c3 => exact rfl); (case c4 => exact rfl); k_whole; intro g' L' h' tk' cells' FG' F' N' Y' B' X' T' l1; (try k_lt l1); k_cells Y'; (try simp only [List.cons_append, List.nil_append] at N'); (try dsimp only); (try k_fold)))
section
variable {prog : Program} {w : World} {A : Around} {s : Shared} {h₀ : Heap} {L : Addr} {m : Str → Option Value} {env : Env}
theorem comp_inv {elt : Expr} {x : Str} {scope : Scope} {cl : List (Str × Addr)} {S : List (Addr × Obj) → Prop} {P : Nat → Value → Prop} {Fin : List Value → List (Addr × Obj) → Prop} {n : Nat} (J : Nat → List Value → List (Addr × Obj) → Prop)
    (turn : ∀ i ys news v I oI C oC D m₂ h tk (E' : Value → Shared → Prop), i < n → J i ys news → P i v → LCg.NsObj oC m₂ → m₂ x = some v → Fr h₀ L h m → News h₀ L h ((I, oI) :: (C, oC) :: (D, LCg.lst ys) :: news) → LCg.Off3 I C D news → ((@Ne Nat I C) ∧ (@Ne Nat I D) ∧ (@Ne Nat C D)) →
      wpAny (model prog w) A (eval elt (compEnvC scope cl C env)) (LCg.CompEnd h₀ L m { s with heap := h, toks := tk } I oI C oC D (LCg.lst ys) S (fun y news' => J (i + 1) (ys ++ [y]) news')) E' { s with heap := h, toks := tk })
    (fin : ∀ ys news, J n ys news → Fin ys news) : ∀ k i ys news, i + k = n → J i ys news → LCg.CompRest prog w A h₀ L m env elt x scope cl s S P Fin k i ys news
  | 0, i, ys, news, e, hj => LCg.CompRest.zero (fin ys news (by have h9 : i = n := (by omega); exact h9 ▸ hj))
  | k + 1, i, ys, news, e, hj => LCg.CompRest.succ fun v I oI C oC D m₂ h tk E' hv hC hx F N off ne =>
      wpAny_mono (turn i ys news v I oI C oC D m₂ h tk E' (by omega) hj hv hC hx F N off ne) (fun y s' ⟨h', tk', news', e1, F', N', off', hS, hj'⟩ => ⟨h', tk', news', e1, F', N', off', hS, comp_inv J turn fin k (i + 1) _ _ (by omega) hj'⟩) fun _ _ x => x
theorem compT_inv {ct elt : Expr} {x : Str} {scope : Scope} {cl : List (Str × Addr)} {S : List (Addr × Obj) → Prop} {P : Nat → Value → Prop} {Fin : List Value → List (Addr × Obj) → Prop} {n : Nat} (J : Nat → List Value → List (Addr × Obj) → Prop)
    (turn : ∀ i ys news v I oI C oC D m₂ h tk (E' : Value → Shared → Prop), i < n → J i ys news → P i v → LCg.NsObj oC m₂ → m₂ x = some v → Fr h₀ L h m → News h₀ L h ((I, oI) :: (C, oC) :: (D, LCg.lst ys) :: news) → LCg.Off3 I C D news → ((@Ne Nat I C) ∧ (@Ne Nat I D) ∧ (@Ne Nat C D)) →
      wpAny (model prog w) A (isTrue ct (compEnvC scope cl C env) (eval ct (compEnvC scope cl C env))) (fun ok s' => if ok = true then
        wpAny (model prog w) A (eval elt (compEnvC scope cl C env)) (LCg.CompEnd h₀ L m { s with heap := h, toks := tk } I oI C oC D (LCg.lst ys) S (fun y news' => J (i + 1) (ys ++ [y]) news')) E' s'
        else LCg.CompEnd h₀ L m { s with heap := h, toks := tk } I oI C oC D (LCg.lst ys) S (fun _ news' => J (i + 1) ys news') Value.none s') E' { s with heap := h, toks := tk })
    (fin : ∀ ys news, J n ys news → Fin ys news) : ∀ k i ys news, i + k = n → J i ys news → LCt.CompRestT prog w A h₀ L m env ct elt x scope cl s S P Fin k i ys news
  | 0, i, ys, news, e, hj => LCt.CompRestT.zero (fin ys news (by have h9 : i = n := (by omega); exact h9 ▸ hj))
  | k + 1, i, ys, news, e, hj => LCt.CompRestT.succ fun v I oI C oC D m₂ h tk E' hv hC hx F N off ne =>
      wpAny_mono (turn i ys news v I oI C oC D m₂ h tk E' (by omega) hj hv hC hx F N off ne) (fun ok s' z => by
        by_cases hok : ok = true
        · rw [if_pos hok] at z ⊢
          exact wpAny_mono z (fun y s'' ⟨h', tk', news', e1, F', N', off', hS, hj'⟩ => ⟨h', tk', news', e1, F', N', off', hS, compT_inv J turn fin k (i + 1) _ _ (by omega) hj'⟩) fun _ _ x => x
        · rw [if_neg hok] at z ⊢
          obtain ⟨h', tk', news', e1, F', N', off', hS, hj'⟩ := z
          exact ⟨h', tk', news', e1, F', N', off', hS, compT_inv J turn fin k (i + 1) _ _ (by omega) hj'⟩) fun _ _ x => x
end
theorem VAll.mono {news news' : List (Addr × Obj)} {vs : List Value} {ds : List V} (h : VAll news vs ds) (hs : ∀ q ∈ news, q ∈ news') : VAll news' vs ds := by
  induction h with
  | nil => exact .nil
  | cons h _ ih => exact .cons (h.mono hs) ih
theorem VAll.snoc {news : List (Addr × Obj)} {vs : List Value} {ds : List V} {v : Value} {d : V} (h : VAll news vs ds) (hv : VIs news v d) : VAll news (vs ++ [v]) (ds ++ [d]) := by
  induction h with
  | nil => exact .cons hv .nil
  | cons h _ ih => exact .cons h ih
theorem VAll.len {news : List (Addr × Obj)} {vs : List Value} {ds : List V} (h : VAll news vs ds) : vs.length = ds.length := by
  induction h with
  | nil => rfl
  | cons _ _ ih => rw [List.length_cons, List.length_cons, ih]
theorem VAll.get {news : List (Addr × Obj)} {vs : List Value} {ds : List V} (h : VAll news vs ds) : ∀ {i : Nat} {v : Value}, vs[i]? = some v → ∃ d, ds[i]? = some d ∧ VIs news v d := by
  induction h with
  | nil => intro i v e; simp at e
  | cons h _ ih =>
    intro i v e
    cases i with
    | zero => simp at e; subst e; exact ⟨_, rfl, h⟩
    | succ i => exact ih (by simpa using e)
/-- the numbers of the symbols among things -/
def syms : List V → List Int
  | [] => []
  | .sym i :: r => i :: syms r
  | _ :: r => syms r
theorem syms_snoc : ∀ (l : List V) (d : V), syms (l ++ [d]) = syms l ++ syms [d]
  | [], _ => rfl
  | x :: r, d => by
    cases x <;> simp [syms, syms_snoc r d]
def ListedJ (cell : Addr × Obj) (d l : Addr) (nd nl : Nat) (c0 : Int) (ws : List Value) (rest : List (Addr × Obj)) (i : Nat) (ys : List Value) (news : List (Addr × Obj)) : Prop :=
  ∃ (c : Int) (tc : Tok) (ds : List V) (new : List (Addr × Obj)), news = cell :: (d, listOf #[.ref l, .int c tc] nd) :: (l, listOf ws.toArray nl) :: (new ++ rest) ∧ c0 ≤ c ∧ c ≤ c0 + 3 * (i : Int) ∧ VAll new ys ds ∧ ys.length = i ∧ ∀ p ∈ new, cell.1 < p.1
theorem listed_end1 {h₀ h' : Heap} {L I C D T1 T3 X ca d l : Addr} {m : Str → Option Value} {s₁ : Shared} {oI oC oD oX co : Obj} {S : List (Addr × Obj) → Prop} {t3 t1 u1 u2 tc : Tok} {k1 k3 nd nl n tk : Nat} {i1 i2 c c0 : Int} {ws ys : List Value} {ds : List V} {new rest : List (Addr × Obj)} {v2 : Value}
    (F : Fr h₀ L h' m) (N : News h₀ L h' ((X, oX) :: (T3, tupO [.str (Str.ofString "list") t3] k3) :: (T1, tupO [.str (Str.ofString "symbol") t1, .int i1 u1] k1) :: (I, oI) :: (C, oC) :: (D, oD) :: (ca, co) :: (d, listOf #[.ref l, .int c tc] nd) :: (l, listOf ws.toArray nl) :: (new ++ rest)))
    (hv : v2 ∈ [.ref T1, .int i2 u2, .ref T3]) (off : (@Ne Nat ca I ∧ @Ne Nat ca C ∧ @Ne Nat ca D) ∧ (@Ne Nat d I ∧ @Ne Nat d C ∧ @Ne Nat d D) ∧ (@Ne Nat l I ∧ @Ne Nat l C ∧ @Ne Nat l D) ∧ LCg.Off3 I C D (new ++ rest))
    (hT1 : I < T1 ∧ C < T1 ∧ D < T1 ∧ ca < T1) (hT3 : I < T3 ∧ C < T3 ∧ D < T3 ∧ ca < T3) (hS : ∀ q, S q) (h1 : c0 ≤ c) (h2 : c ≤ c0 + 3 * ((n : Int) + 1)) (hall : VAll new ys ds) (hlen : ys.length = n) (hnew : ∀ p ∈ new, ca < p.1) :
    LCg.CompEnd h₀ L m s₁ I oI C oC D oD S (fun y news' => ListedJ (ca, co) d l nd nl c0 ws rest (n + 1) (ys ++ [y]) news') v2 { s₁ with heap := h', toks := tk } := by
  have N2 : News h₀ L h' ((I, oI) :: (C, oC) :: (D, oD) :: (ca, co) :: (d, listOf #[.ref l, .int c tc] nd) :: (l, listOf ws.toArray nl) :: (((T1, tupO [.str (Str.ofString "symbol") t1, .int i1 u1] k1) :: (T3, tupO [.str (Str.ofString "list") t3] k3) :: new) ++ rest)) :=
    news_sub N fun p hp => by
      simp only [List.cons_append, List.mem_cons] at hp ⊢
      rcases hp with h | h | h | h | h | h | h | h | h <;> simp [h]
  have hV : ∃ dv, VIs ((T1, tupO [.str (Str.ofString "symbol") t1, .int i1 u1] k1) :: (T3, tupO [.str (Str.ofString "list") t3] k3) :: new) v2 dv := by
    simp only [List.mem_cons, List.not_mem_nil, or_false] at hv
    rcases hv with rfl | rfl | rfl
    · exact ⟨_, .sym (.head _)⟩
    · exact ⟨_, .num⟩
    · exact ⟨_, .lst (.tail _ (.head _))⟩
  obtain ⟨dv, hdv⟩ := hV
  obtain ⟨a1, a2, a3, a4⟩ := hT1
  obtain ⟨b1, b2, b3, b4⟩ := hT3
  refine comp_end F N2 ⟨off.1, off.2.1, off.2.2.1, ⟨Nat.ne_of_gt a1, Nat.ne_of_gt a2, Nat.ne_of_gt a3⟩, ⟨Nat.ne_of_gt b1, Nat.ne_of_gt b2, Nat.ne_of_gt b3⟩, off.2.2.2⟩ (hS _) ⟨c, tc, ds ++ [dv], _, rfl, h1, by omega, (hall.mono sub2).snoc hdv, by simp [hlen], ?_⟩
  intro p hp
  rcases List.mem_cons.mp hp with rfl | hp
  · exact a4
  · rcases List.mem_cons.mp hp with rfl | hp
    · exact b4
    · exact hnew p hp
theorem syms_take {ds : List V} {i : Nat} {dv : V} (hd : ds[i]? = some dv) : syms (ds.take (i + 1)) = syms (ds.take i) ++ syms [dv] := by
  rw [← syms_snoc, List.take_add_one, hd]
  rfl
theorem listed_end2 {h₀ h' : Heap} {L I C D ax : Addr} {m : Str → Option Value} {s₁ : Shared} {oI oC oD : Obj} {tk i k : Nat} {n : Int} {u : Tok} {ys vs : List Value} {ds : List V} {more : List (Addr × Obj)}
    (F : Fr h₀ L h' m) (N : News h₀ L h' ((I, oI) :: (C, oC) :: (D, oD) :: (ax, listOf vs.toArray k) :: more)) (off : LCg.Off3 I C D ((ax, listOf vs.toArray k) :: more)) (hi : IntsAre ys (syms (ds.take i))) (hd : ds[i]? = some (.sym n)) :
    LCg.CompEnd h₀ L m s₁ I oI C oC D oD (LCg.SrcAt h₀ ax vs.toArray) (fun y news' => news' = (ax, listOf vs.toArray k) :: more ∧ IntsAre (ys ++ [y]) (syms (ds.take (i + 1)))) (.int n u) { s₁ with heap := h', toks := tk } :=
  comp_end F N off (.inr ⟨_, .head _, rfl, _, rfl⟩) ⟨rfl, by rw [syms_take hd]; exact hi.append (.cons n u .nil)⟩
theorem listed_end3 {h₀ h' : Heap} {L I C D ax : Addr} {m : Str → Option Value} {s₁ : Shared} {oI oC oD : Obj} {tk i k : Nat} {v : Value} {dv : V} {ys vs : List Value} {ds : List V} {more : List (Addr × Obj)}
    (F : Fr h₀ L h' m) (N : News h₀ L h' ((I, oI) :: (C, oC) :: (D, oD) :: (ax, listOf vs.toArray k) :: more)) (off : LCg.Off3 I C D ((ax, listOf vs.toArray k) :: more)) (hi : IntsAre ys (syms (ds.take i))) (hd : ds[i]? = some dv) (hn : syms [dv] = []) :
    LCg.CompEnd h₀ L m s₁ I oI C oC D oD (LCg.SrcAt h₀ ax vs.toArray) (fun _ news' => news' = (ax, listOf vs.toArray k) :: more ∧ IntsAre ys (syms (ds.take (i + 1)))) v { s₁ with heap := h', toks := tk } :=
  comp_end F N off (.inr ⟨_, .head _, rfl, _, rfl⟩) ⟨rfl, by rw [syms_take hd, hn, List.append_nil]; exact hi⟩
theorem tup_cons {prog : Program} {w : World} {A : Around} {E : Value → Shared → Prop} {s : Shared} {h₀ : Heap} {L : Addr} {m : Str → Option Value} {news : List (Addr × Obj)} {t b : Addr} {x : Value} {ws : List Value} {k k2 : Nat} {Q : Value → Shared → Prop}
    (F : Fr h₀ L s.heap m) (N : News h₀ L s.heap news) (ht : (t, tupO [x] k) ∈ news) (hb : (b, tupO ws k2) ∈ news) (hl : ws.length ≤ 3)
    (h : ∀ a h' k', Fr h₀ L h' m → News h₀ L h' ((a, tupO (x :: ws) k') :: news) → (a = t ∨ ∀ p ∈ news, p.1 < a) → Q (.ref a) { s with heap := h' }) : wpAny (model prog w) A (binaryOp .Add (.ref t) (.ref b)) Q E s := by
  refine add_tuples F N (vs := [x]) (ws := ws) ⟨_, (N _ ht).1, rfl, k, rfl⟩ ⟨_, (N _ hb).1, rfl, k2, rfl⟩ (fun e => nomatch e) (fun _ e => ?_) (fun _ _ h' F' N' => h _ h' 0 F' N' (.inr fun p hp => Heap.lt_size (N p hp).1)) (by rw [sizeLine_eq]; simp; omega)
  subst e
  exact h t s.heap k F (fun p hp => (List.mem_cons.mp hp).elim (fun e => e ▸ N _ ht) (N p)) (.inl rfl)
theorem ListIs.ofAll {news : List (Addr × Obj)} {a : Addr} {t : Tok} {k : Nat} {ys : List Value} {ds : List V} (h : VAll news ys ds) (hl : ys.length ≤ 3) (hm : (a, tupO (.str (Str.ofString "list") t :: ys) k) ∈ news) : ListIs news (.ref a) (some ds) true := by
  cases h with
  | nil => exact .l0 hm
  | cons h1 h => cases h with
    | nil => exact .l1 hm h1
    | cons h2 h => cases h with
      | nil => exact .l2 hm h1 h2
      | cons h3 h => cases h with
        | nil => exact .l3 hm h1 h2 h3
        | cons h4 h => simp only [List.length_cons] at hl; omega
/-- what `_law_listed` hands back -/
def ListedOut (d l : Addr) (nd nl : Nat) (c : Int) (ws : List Value) (rest : List (Addr × Obj)) (r : Value) (news' : List (Addr × Obj)) : Prop :=
  ∃ (T nu : Addr) (v : Value) (flag : Bool) (vs : List Value) (ns : List Int) (o : Option (List V)) (b : Bool) (c1 : Int) (tc1 : Tok) (new : List (Addr × Obj)) (k1 k2 : Nat), r = .ref T ∧
    news' = (d, listOf #[.ref l, .int c1 tc1] nd) :: (l, listOf ws.toArray nl) :: (new ++ rest) ∧ c ≤ c1 ∧ c1 ≤ c + 12 ∧ (∀ p ∈ new, p.1 ≠ d ∧ p.1 ≠ l ∧ ∀ q ∈ rest, p.1 ≠ q.1) ∧ (T, tupO [v, .ref nu, .bool flag] k1) ∈ new ∧ (nu, listOf vs.toArray k2) ∈ new ∧ IntsAre vs ns ∧
    ListIs new v o b ∧ ((flag = true ∧ ∃ ds, o = some ds ∧ ns = syms ds) ∨ (flag = false ∧ o = none))
theorem allLt_mem {D : Addr} {l : List (Addr × Obj)} (x : AllLt D l) : ∀ p ∈ l, @LT.lt Nat _ p.1 D := by
  induction l with
  | nil => exact fun p h => (nomatch h)
  | cons q l ih =>
    intro p h
    cases h with
    | head => exact x.1
    | tail _ h => exact ih x.2 p h
theorem off1_mem {D : Addr} {l : List (Addr × Obj)} (x : LCg.Off1 D l) : ∀ p ∈ l, @Ne Nat p.1 D := by
  induction l with
  | nil => exact fun p h => (nomatch h)
  | cons q l ih =>
    intro p h
    cases h with
    | head => exact x.1
    | tail _ h => exact ih x.2 p h
theorem listed_out1 {h₀ h : Heap} {L T a nu d l ca : Addr} {t : Tok} {k1 k4 nd nl : Nat} {c c1 : Int} {tc1 : Tok} {ws ys1 ys3 : List Value} {ds : List V} {new rest : List (Addr × Obj)} {oa oc od : Addr × Obj} {Tl : Addr} {oL : Obj}
    (N : News h₀ L h ((T, tupO [.ref a, .ref nu, .bool true] k1) :: (a, tupO (.str (Str.ofString "list") t :: ys1) k4) :: oa :: (Tl, oL) :: (nu, LCg.lst ys3) :: oc :: od :: (d, listOf #[.ref l, .int c1 tc1] nd) :: (l, listOf ws.toArray nl) :: (new ++ rest)))
    (hall : VAll new ys1 ds) (hlen : ys1.length ≤ 3) (hi : IntsAre ys3 (syms ds)) (hc : c ≤ c1) (hc2 : c1 ≤ c + 12) (hT : d < T ∧ l < T ∧ AllLt T (new ++ rest)) (ha₀ : d < Tl ∧ l < Tl ∧ AllLt Tl (new ++ rest)) (hfr : a = Tl ∨ ∀ p ∈ oa :: (Tl, oL) :: (nu, LCg.lst ys3) :: oc :: od :: (d, listOf #[.ref l, .int c1 tc1] nd) :: (l, listOf ws.toArray nl) :: (new ++ rest), p.1 < a) (hn : @Ne Nat d nu ∧ @Ne Nat l nu ∧ LCg.Off1 nu (new ++ rest))
    (hnew : ∀ p ∈ new, ca < p.1) (hd : d < ca) (hl : l < ca) (hr : ∀ q ∈ rest, q.1 < ca) :
    ∃ news', ListedOut d l nd nl c ws rest (.ref T) news' ∧ News h₀ L h news' := by
  have ha : d < a ∧ l < a ∧ AllLt a (new ++ rest) := by
    rcases hfr with rfl | hf
    · exact ha₀
    · exact ⟨hf (d, listOf #[.ref l, .int c1 tc1] nd) (by simp), hf (l, listOf ws.toArray nl) (by simp), allLt_of fun p hp => hf p (.tail _ (.tail _ (.tail _ (.tail _ (.tail _ (.tail _ (.tail _ hp)))))))⟩
  refine ⟨_, ⟨T, nu, .ref a, true, ys3, syms ds, some ds, true, c1, tc1, (T, tupO [.ref a, .ref nu, .bool true] k1) :: (a, tupO (.str (Str.ofString "list") t :: ys1) k4) :: (nu, LCg.lst ys3) :: new, k1, ys3.length, rfl, rfl, hc, hc2, ?_, .head _, .tail _ (.tail _ (.head _)), hi, ListIs.ofAll (hall.mono sub3) hlen (.tail _ (.head _)), .inl ⟨rfl, ds, rfl, rfl⟩⟩, news_sub N fun p hp => ?_⟩
  · intro p hp
    simp only [List.mem_cons] at hp
    rcases hp with rfl | rfl | rfl | hp
    · exact ⟨Nat.ne_of_gt hT.1, Nat.ne_of_gt hT.2.1, fun q hq => Nat.ne_of_gt (allLt_mem hT.2.2 q (List.mem_append_right _ hq))⟩
    · exact ⟨Nat.ne_of_gt ha.1, Nat.ne_of_gt ha.2.1, fun q hq => Nat.ne_of_gt (allLt_mem ha.2.2 q (List.mem_append_right _ hq))⟩
    · exact ⟨fun e => hn.1 e.symm, fun e => hn.2.1 e.symm, fun q hq e => off1_mem hn.2.2 q (List.mem_append_right _ hq) e.symm⟩
    · exact ⟨Nat.ne_of_gt (Nat.lt_trans hd (hnew p hp)), Nat.ne_of_gt (Nat.lt_trans hl (hnew p hp)), fun q hq => Nat.ne_of_gt (Nat.lt_trans (hr q hq) (hnew p hp))⟩
  · simp only [List.cons_append, List.mem_cons] at hp ⊢
    rcases hp with h | h | h | h | h | h <;> simp [h]
theorem listed_out2 {h₀ h : Heap} {L T nu d l : Addr} {k1 nd nl : Nat} {c : Int} {tc1 : Tok} {ws : List Value} {rest : List (Addr × Obj)} {v : Value} {b : Bool} {oa ob : Addr × Obj}
    (N : News h₀ L h ((T, tupO [v, .ref nu, .bool false] k1) :: (nu, listOf #[] 0) :: oa :: ob :: (d, listOf #[.ref l, .int (c + 1) tc1] nd) :: (l, listOf ws.toArray nl) :: rest)) (hv : ListIs [] v none b)
    (hT : d < T ∧ l < T ∧ AllLt T rest) (ha : d < nu ∧ l < nu ∧ AllLt nu rest) :
    ∃ news', ListedOut d l nd nl c ws rest (.ref T) news' ∧ News h₀ L h news' := by
  refine ⟨_, ⟨T, nu, v, false, [], [], none, b, c + 1, tc1, [(T, tupO [v, .ref nu, .bool false] k1), (nu, listOf #[] 0)], k1, 0, rfl, rfl, by omega, by omega, ?_, .head _, .tail _ (.head _), .nil, hv.mono (fun q h => (nomatch h)), .inr ⟨rfl, rfl⟩⟩, news_sub N fun p hp => ?_⟩
  · intro p hp
    simp only [List.mem_cons, List.not_mem_nil, or_false] at hp
    rcases hp with rfl | rfl
    · exact ⟨Nat.ne_of_gt hT.1, Nat.ne_of_gt hT.2.1, fun q hq => Nat.ne_of_gt (allLt_mem hT.2.2 q hq)⟩
    · exact ⟨Nat.ne_of_gt ha.1, Nat.ne_of_gt ha.2.1, fun q hq => Nat.ne_of_gt (allLt_mem ha.2.2 q hq)⟩
  · simp only [List.cons_append, List.nil_append, List.mem_cons] at hp ⊢
    rcases hp with h | h | h | h | h <;> simp [h]
section
variable {prog : Program} {w : World} {A : Around} {s₁ : Shared} {h₀ : Heap} {L : Addr} {m : Str → Option Value} {env : Env}
theorem listed_src {elt : Expr} {x : Str} {scope : Scope} {cl : List (Str × Addr)} {Fin : Shared → List Value → List (Addr × Obj) → Prop} {r d l ca : Addr} {co : Obj} {nd nl n : Nat} {c b₀ : Int} {tc t₀ u₀ v₀ : Tok} {ws : List Value} {rest : List (Addr × Obj)}
    (hh : A.handled = none) (F : Fr h₀ L s₁.heap m) (N : News h₀ L s₁.heap ((ca, co) :: (d, listOf #[.ref l, .int c tc] nd) :: (l, listOf ws.toArray nl) :: rest)) (hr : IsRange s₁.heap r 0 b₀ 1 t₀ u₀ v₀) (hb : b₀ = (n : Int)) (hz : n ≤ 3) (hrd : ∀ p ∈ rest, p.1 ≠ d) (hdc : d < ca)
    (turn : ∀ i ys c1 tc1 ds new v I oI C oC D m₂ h tk (E' : Value → Shared → Prop), i < n → c ≤ c1 → c1 ≤ c + 3 * (i : Int) → VAll new ys ds → ys.length = i → (∀ p ∈ new, ca < p.1) → (∀ p ∈ new ++ rest, p.1 ≠ d) → LCg.NsObj oC m₂ → m₂ x = some v → Fr h₀ L h m →
      News h₀ L h ((I, oI) :: (C, oC) :: (D, LCg.lst ys) :: (ca, co) :: (d, listOf #[.ref l, .int c1 tc1] nd) :: (l, listOf ws.toArray nl) :: (new ++ rest)) → LCg.Off3 I C D ((ca, co) :: (d, listOf #[.ref l, .int c1 tc1] nd) :: (l, listOf ws.toArray nl) :: (new ++ rest)) → ((@Ne Nat I C) ∧ (@Ne Nat I D) ∧ (@Ne Nat C D)) →
      wpAny (model prog w) A (eval elt (compEnvC scope cl C env)) (LCg.CompEnd h₀ L m { s₁ with heap := h, toks := tk } I oI C oC D (LCg.lst ys) (fun _ => True) (fun y news' => ListedJ (ca, co) d l nd nl c ws rest (i + 1) (ys ++ [y]) news')) E' { s₁ with heap := h, toks := tk })
    (fin : ∀ (g : Heap) ys c1 tc1 ds new, c ≤ c1 → c1 ≤ c + 3 * (n : Int) → VAll new ys ds → ys.length = n → (∀ p ∈ new, ca < p.1) → Fin { s₁ with heap := g } ys ((ca, co) :: (d, listOf #[.ref l, .int c1 tc1] nd) :: (l, listOf ws.toArray nl) :: (new ++ rest))) :
    LCg.CompSrc prog w A h₀ L m env elt x scope cl Fin (.ref r) s₁ := by
  subst hb
  refine LCg.CompSrc.range (n := n) hh F N hr (small_one (by omega) (by omega) (by omega) (by omega)) (by rw [rangeSize_nat]; omega) (by rw [sizeLine_eq]; omega) fun g => ?_
  refine comp_inv (n := n) (ListedJ (ca, co) d l nd nl c ws rest) ?_ ?_ n 0 [] _ (by omega) ⟨c, tc, [], [], rfl, by omega, by omega, .nil, rfl, fun _ h => (nomatch h)⟩
  · rintro i ys news v I oI C oC D m₂ h tk E' hi ⟨c1, tc1, ds, new, rfl, a1, a2, a3, a4, a5⟩ _ hC hx F' N' off ne
    refine turn i ys c1 tc1 ds new v I oI C oC D m₂ h tk E' hi a1 a2 a3 a4 a5 ?_ hC hx F' N' off ne
    intro p hp
    rcases List.mem_append.mp hp with h1 | h1
    · exact Nat.ne_of_gt (Nat.lt_trans hdc (a5 p h1))
    · exact hrd p h1
  · rintro ys news ⟨c1, tc1, ds, new, rfl, a1, a2, a3, a4, a5⟩
    exact fin g ys c1 tc1 ds new a1 a2 a3 a4 a5
theorem listed_srcT {ct elt : Expr} {x : Str} {scope : Scope} {cl : List (Str × Addr)} {Fin : Shared → List Value → List (Addr × Obj) → Prop} {ax : Addr} {vs : List Value} {ds : List V} {more : List (Addr × Obj)} {k : Nat}
    (hh : A.handled = none) (F : Fr h₀ L s₁.heap m) (N : News h₀ L s₁.heap ((ax, listOf vs.toArray k) :: more)) (hv : VAll more vs ds) (hz : vs.length ≤ 3)
    (turn : ∀ i ys v dv I oI C oC D m₂ h tk (E' : Value → Shared → Prop), vs[i]? = some v → ds[i]? = some dv → VIs more v dv → IntsAre ys (syms (ds.take i)) → LCg.NsObj oC m₂ → m₂ x = some v → Fr h₀ L h m →
      News h₀ L h ((I, oI) :: (C, oC) :: (D, LCg.lst ys) :: (ax, listOf vs.toArray k) :: more) → LCg.Off3 I C D ((ax, listOf vs.toArray k) :: more) → ((@Ne Nat I C) ∧ (@Ne Nat I D) ∧ (@Ne Nat C D)) →
      wpAny (model prog w) A (isTrue ct (compEnvC scope cl C env) (eval ct (compEnvC scope cl C env))) (fun ok s' => if ok = true then
        wpAny (model prog w) A (eval elt (compEnvC scope cl C env)) (LCg.CompEnd h₀ L m { s₁ with heap := h, toks := tk } I oI C oC D (LCg.lst ys) (LCg.SrcAt h₀ ax vs.toArray) (fun y news' => news' = (ax, listOf vs.toArray k) :: more ∧ IntsAre (ys ++ [y]) (syms (ds.take (i + 1))))) E' s'
        else LCg.CompEnd h₀ L m { s₁ with heap := h, toks := tk } I oI C oC D (LCg.lst ys) (LCg.SrcAt h₀ ax vs.toArray) (fun _ news' => news' = (ax, listOf vs.toArray k) :: more ∧ IntsAre ys (syms (ds.take (i + 1)))) Value.none s') E' { s₁ with heap := h, toks := tk })
    (fin : ∀ (g : Heap) ys, IntsAre ys (syms ds) → Fin { s₁ with heap := g } ys ((ax, listOf vs.toArray k) :: more)) :
    LCt.CompSrcT prog w A h₀ L m env ct elt x scope cl Fin (.ref ax) s₁ := by
  have hlen := hv.len
  refine LCt.CompSrcT.ledger (k := k) (its := vs.toArray) hh F N (.head _) (by rw [sizeLine_eq]; simp; omega) fun g => ?_
  have e0 : vs.toArray.size = vs.length := by simp
  refine compT_inv (n := vs.toArray.size) (fun i ys news => news = (ax, listOf vs.toArray k) :: more ∧ IntsAre ys (syms (ds.take i))) ?_ ?_ _ 0 [] _ (by omega) ⟨rfl, .nil⟩
  · rintro i ys news v I oI C oC D m₂ h tk E' hi ⟨rfl, a1⟩ hP hC hx F' N' off ne
    have hP' : vs[i]? = some v := by simpa using hP
    obtain ⟨dv, hd, hvis⟩ := hv.get hP'
    exact turn i ys v dv I oI C oC D m₂ h tk E' hP' hd hvis a1 hC hx F' N' off ne
  · rintro ys news ⟨rfl, a1⟩
    rw [e0, hlen, List.take_length] at a1
    exact fin g ys a1
end
set_option maxRecDepth 100000 in
set_option maxHeartbeats 1500000 in
theorem listed_spec (prog : Program) (w : World) (mean : ExcName → Option Value) (mg mb : Str → Option Value) {d l : Addr} {nd nl : Nat} {c : Int} {tc : Tok} {ws : List Value} {ks : List Int} {rest : List (Addr × Obj)}
    (hdk : DeckIs ws ks) (hld : l ≠ d) (hr : ∀ p ∈ rest, p.1 ≠ d) (hc : 0 ≤ c) (hc2 : c < 90000) :
    Spec prog w mean mg mb 2 198 [.ref d] ((d, listOf #[.ref l, .int c tc] nd) :: (l, listOf ws.toArray nl) :: rest) (ListedOut d l nd nl c ws rest) := by
  intro dp un gd cn cs a ccd cl outer A₀ base h₀ L m s Q E B F X N T hk hd hu hret
  refine wpAny_call ?_
  k_with_none
  k_with "call ref" => ((with_reducible show wpAny _ _ (call (Value.ref 172) _) _ _ _); ktr_call d l; intro k' tr' tc' h' tk' hk0' hk1' F' N'; (try dsimp only at N'); (try k_fold); (try dsimp only))
  k_with "call type:range" => ((rename News _ _ _ _ => N'); (rename Fr _ _ _ _ => F'); ((with_unfolding_all refine range1_rows F' N' ?_); intro h' tk' t1' t2' t3' rg' F' N' keep'))
  k_with "exec Assign cons ListComp" => ((with_reducible show wpAny _ _ (exec (Stmt.Assign _ (Expr.ListComp _ [Comprehension.mk _ _ [] _] _ _) _) _) _ _ _); k_dflt (refine LCg.Assign_ListComp_U (F₀ := by k_asm) (by rfl) (by with_unfolding_all rfl) (by with_unfolding_all rfl) (by decide) (by rfl) (by decide) (by rfl) (by rfl) (by rfl) ?_))
  k_with "exec Assign cons ListComp" => ((with_reducible show wpAny _ _ (exec (Stmt.Assign _ (Expr.ListComp _ [Comprehension.mk _ _ [_] _] _ _) _) _) _ _ _); k_dflt (refine LCt.Assign_ListComp_T (F₀ := by k_asm) (by rfl) (by with_unfolding_all rfl) (by with_unfolding_all rfl) (by decide) (by rfl) (by decide) (by rfl) (by rfl) (by rfl) ?_))
  k_with "subscriptTail" => (k_dflt (refine itemV (vs := [_, _, _]) (by k_asm) (.head _) (by omega) (by show _ < (3 : Int); omega) (Nat.le_of_ble_eq_true rfl) (fun v2 hv2 => ?_)); (try dsimp only))
  k_with "subscriptTail" => (k_dflt (refine itemV (vs := [_, _]) (by k_asm) (.head _) (by omega) (by show _ < (2 : Int); omega) (Nat.le_of_ble_eq_true rfl) (fun v2 hv2 => ?_)); (simp only [List.mem_cons, List.not_mem_nil, or_false] at hv2); (rcases hv2 with rfl | rfl) <;> (try dsimp only))
  k_with "CompSrcT" => (k_dflt (refine listed_srcT (k := ys1.length) (by rfl) (by k_asm) (by k_asm) (hall1.mono (fun q hq => .tail _ (.tail _ (.tail _ (List.mem_append_left _ hq))))) (by omega) (fun i3 ys3 v3 dv3 I3 oI3 C3 oC3 D3 m3 h' tk' E3 hv3 hd3 hvis3 hints3 hC3 hx3 F' N' off3 ne3 => ?_) (fun g ys3 hints3 => ?_)); (cases hvis3))
  k_with "binaryOp Add ref" => (k_dflt (refine tup_cons (by assumption) (by assumption) (.tail _ (.head _)) (.head _) (by omega) (fun a4 h' k4 F' N' hfr4 => ?_)))
  k_with "subscriptTail" => ((with_reducible show wpAny _ _ (subscriptTail _ _ (Value.ref _) (Value.int 0 _)) _ _ _); (with_unfolding_all refine' item0 (by assumption) (List.mem_cons_of_mem _ (List.mem_cons_of_mem _ (List.mem_cons_of_mem _ (List.mem_cons_of_mem _ (by assumption))))) ?_); (try dsimp only))
  k_with "CompEnd" => (k_dflt (first | exact listed_end2 (by assumption) (by assumption) off3 hints3 hd3 | exact listed_end3 (by assumption) (by assumption) off3 hints3 hd3 rfl))
  k_with "CompEnd" => (k_dflt (refine listed_end1 (by assumption) (by assumption) hv2 off1 ?_ ?_ (fun _ => trivial) (by omega) (by omega) hall1 hlen1 hnew1) <;> (repeat (rename _ ∧ _ => hc9; obtain ⟨_, _⟩ := hc9)) <;> exact ⟨by assumption, by assumption, by assumption, by assumption⟩)
  k_with "CompSrc" => ((rename IsRange _ _ _ _ _ _ _ _ => rgX); k_dflt (refine listed_src (n := k'.toNat) (by rfl) (by k_asm) (by k_asm) rgX (by omega) (by omega) hr (by show @LT.lt Nat _ _ _; omega) (fun i1 ys1 c1 tc1 ds1 new1 v1 I1 oI1 C1 oC1 D1 m1 h' tk' E1 hi1 hc11 hc12 hall1 hlen1 hnew1 hTd hC1 hx1 F' N' off1 ne1 => ?_) (fun g ys1 c1 tc1 ds1 new1 hc11 hc12 hall1 hlen1 hnew1 => ?_)); (try simp only [LCg.Off3, and_true] at off1); (try k_fold))
  k_dflt ktn_open
  k_steps
  · (repeat (rename _ ∧ _ => hc9; obtain ⟨_, _⟩ := hc9))
    rename News h₀ L _ _ => kN
    obtain ⟨n9, hn9, hN9⟩ := listed_out1 (c := c) kN hall1 (by omega) hints3 (by omega) (by omega) ⟨by assumption, by assumption, by assumption⟩ ⟨by assumption, by assumption, by assumption⟩ hfr4 ⟨by assumption, by assumption, by assumption⟩ hnew1 (Nat.lt_succ_of_lt (by assumption)) (Nat.lt_succ_of_lt (by assumption)) (fun q hq => Nat.lt_succ_of_lt (allLt_mem (by assumption) q hq))
    exact hret _ n9 _ _ (by assumption) hN9 hn9
  · (repeat (rename _ ∧ _ => hc9; obtain ⟨_, _⟩ := hc9))
    rename News h₀ L _ _ => kN
    obtain ⟨n9, hn9, hN9⟩ := listed_out2 kN .nil ⟨by assumption, by assumption, by assumption⟩ ⟨by assumption, by assumption, by assumption⟩
    exact hret _ n9 _ _ (by assumption) hN9 hn9
  · (repeat (rename _ ∧ _ => hc9; obtain ⟨_, _⟩ := hc9))
    rename News h₀ L _ _ => kN
    obtain ⟨n9, hn9, hN9⟩ := listed_out2 kN .tru ⟨by assumption, by assumption, by assumption⟩ ⟨by assumption, by assumption, by assumption⟩
    exact hret _ n9 _ _ (by assumption) hN9 hn9
end Mine
namespace Mine
local macro_rules | `(tactic| walk_at $s:str) => `(tactic| k_extra $s)
/-- the default of a property: what the table holds, else 0 -/
def defOf : Option Value → Int
  | some (.int n _) => n
  | _ => 0
def IntOr (x : Option Value) : Prop := x = none ∨ ∃ n t, x = some (.int n t)
set_option maxRecDepth 100000 in
set_option maxHeartbeats 4000000 in
theorem loose_spec (prog : Program) (w : World) (mean : ExcName → Option Value) (mg mb : Str → Option Value) {rx rdx lx ldx dd pd p8 : Addr} {ps8 : List (Int × Value)} {number : Int} {tm : Tok} {odd : Obj} {kvs : List (Int × Value)} {news : List (Addr × Obj)}
    (W : World8 prog w news rx rdx lx ldx dd pd p8 ps8) (hdd : (dd, odd) ∈ news) (hop : odd.IsDictOf (intKind prog w) kvs) (hlo : (dd == sysModules) = false) (hx : IntOr (valueAt kvs number)) :
    Spec prog w mean mg mb 1 82 [.ref rx, .int number tm] news (fun r news' => news = news' ∧ r = .bool (decide (0 < defOf (valueAt kvs number)))) := by
  obtain ⟨hr, ⟨t0, t1, t2, t3, t4, t5, t6, t7, t8, u0, u1, u2, u3, u4, hrd⟩, -, -, -, -, -, -⟩ := W
  intro dp un gd cn cs a ccd cl outer A₀ base h₀ L m s Q E B F X N T hk hd hu hret
  generalize hv : valueAt kvs number = v at hx hret
  rcases hx with rfl | ⟨n, t, rfl⟩
  all_goals (
    refine wpAny_call ?_
    k_with_none
    k_with "getMethod ref" => ((with_reducible show wpAny _ _ (getMethod (Value.ref dd) _ _) _ _ _); k_dflt (refine kdg_method (knd := intKind _ _) (by k_asm) hdd hop ?_); (try dsimp only))
    k_with "call builtin:dict.get" => (k_dflt (refine kdg_get2 (knd := intKind _ _) (by k_asm) hdd hop hlo (intKind_is _ _ _ _) _ hv ?_); (try dsimp only [Option.getD]))
    k_dflt ktr_enter
    k_steps
    exact hret _ _ _ _ (by assumption) (by assumption) ⟨rfl, rfl⟩)
set_option maxRecDepth 100000 in
set_option maxHeartbeats 4000000 in
theorem tight_spec (prog : Program) (w : World) (mean : ExcName → Option Value) (mg mb : Str → Option Value) {rx rdx lx ldx dd pd p8 : Addr} {ps8 : List (Int × Value)} {number : Int} {tm : Tok} {odd : Obj} {kvs : List (Int × Value)} {news : List (Addr × Obj)}
    (W : World8 prog w news rx rdx lx ldx dd pd p8 ps8) (hdd : (dd, odd) ∈ news) (hop : odd.IsDictOf (intKind prog w) kvs) (hlo : (dd == sysModules) = false) (hx : IntOr (valueAt kvs number)) :
    Spec prog w mean mg mb 1 89 [.ref rx, .int number tm] news (fun r news' => news = news' ∧ r = .bool (decide (defOf (valueAt kvs number) < 0))) := by
  obtain ⟨hr, ⟨t0, t1, t2, t3, t4, t5, t6, t7, t8, u0, u1, u2, u3, u4, hrd⟩, -, -, -, -, -, -⟩ := W
  intro dp un gd cn cs a ccd cl outer A₀ base h₀ L m s Q E B F X N T hk hd hu hret
  generalize hv : valueAt kvs number = v at hx hret
  rcases hx with rfl | ⟨n, t, rfl⟩
  all_goals (
    refine wpAny_call ?_
    k_with_none
    k_with "getMethod ref" => ((with_reducible show wpAny _ _ (getMethod (Value.ref dd) _ _) _ _ _); k_dflt (refine kdg_method (knd := intKind _ _) (by k_asm) hdd hop ?_); (try dsimp only))
    k_with "call builtin:dict.get" => (k_dflt (refine kdg_get2 (knd := intKind _ _) (by k_asm) hdd hop hlo (intKind_is _ _ _ _) _ hv ?_); (try dsimp only [Option.getD]))
    k_dflt ktr_enter
    k_steps
    exact hret _ _ _ _ (by assumption) (by assumption) ⟨rfl, rfl⟩)
end Mine
namespace Mine
theorem deck_is {ws : List Value} {xs : List Int} {f : Int → Int} {y : Int} (hI : IntsAre ws (List.map f (List.take 40 xs) ++ [y])) : DeckIs ws (List.map f (List.take 40 xs) ++ [y]) :=
  ⟨hI, by simp, by simp; omega⟩
theorem law_base {h₀ h : Heap} {L T dd rx rdx pd lx ldx d l : Addr} {oT od opd : Obj} {P : Params} {t0 t1 t2 t3 t4 t5 t6 t7 t8 u0 u1 u2 u3 u4 s0 s1 s2 s3 v0 tc : Tok} {nd nl : Nat} {ws : List Value} {q1 q2 q3 : Addr × Obj}
    (N : News h₀ L h [(T, oT), (dd, od), (rx, instObj 59 rdx), (rdx, dictOf (rulesEs P t0 t1 t2 t3 t4 t5 t6 t7 t8 u0 u1 u2 u3 u4 lx dd) 9), (pd, opd), (lx, instObj 156 ldx), (ldx, dictOf (lispEs P s0 s1 s2 s3 v0 pd) 4), (d, listOf #[.ref l, .int 0 tc] nd), (l, listOf ws.toArray nl), q1, q2, q3]) :
    ∃ t0 t1 t2 t3 t4 t5 t6 t7 t8 u0 u1 u2 u3 u4 s0 s1 s2 s3 v0 tc : Tok, News h₀ L h [(d, listOf #[.ref l, .int 0 tc] nd), (l, listOf ws.toArray nl), (dd, od), (rx, instObj 59 rdx), (rdx, dictOf (rulesEs P t0 t1 t2 t3 t4 t5 t6 t7 t8 u0 u1 u2 u3 u4 lx dd) 9), (lx, instObj 156 ldx), (ldx, dictOf (lispEs P s0 s1 s2 s3 v0 pd) 4), (pd, opd)] :=
  ⟨t0, t1, t2, t3, t4, t5, t6, t7, t8, u0, u1, u2, u3, u4, s0, s1, s2, s3, v0, tc, news_sub N (List.forall_mem_cons.mpr ⟨(.tail _ (.tail _ (.tail _ (.tail _ (.tail _ (.tail _ (.tail _ (.head _)))))))), List.forall_mem_cons.mpr ⟨(.tail _ (.tail _ (.tail _ (.tail _ (.tail _ (.tail _ (.tail _ (.tail _ (.head _))))))))), List.forall_mem_cons.mpr ⟨(.tail _ (.head _)), List.forall_mem_cons.mpr ⟨(.tail _ (.tail _ (.head _))), List.forall_mem_cons.mpr ⟨(.tail _ (.tail _ (.tail _ (.head _)))), List.forall_mem_cons.mpr ⟨(.tail _ (.tail _ (.tail _ (.tail _ (.tail _ (.head _)))))), List.forall_mem_cons.mpr ⟨(.tail _ (.tail _ (.tail _ (.tail _ (.tail _ (.tail _ (.head _))))))), List.forall_mem_cons.mpr ⟨(.tail _ (.tail _ (.tail _ (.tail _ (.head _))))), fun _ h => nomatch h⟩⟩⟩⟩⟩⟩⟩⟩)⟩
/-- after a call that draws pairs: the list to the end -/
theorem law_norm {h₀ h : Heap} {L : Addr} {d l a x1 x2 x3 x4 x5 x6 : Addr × Obj} {new rest : List (Addr × Obj)} (N : News h₀ L h (d :: l :: a :: (new ++ (x1 :: x2 :: x3 :: x4 :: x5 :: x6 :: rest)))) :
    News h₀ L h (d :: l :: x1 :: x2 :: x3 :: x4 :: x5 :: x6 :: a :: (new ++ rest)) :=
  news_sub N fun p hp => by
    simp only [List.mem_cons, List.mem_append] at hp ⊢
    rcases hp with h | h | h | h | h | h | h | h | h | h | h <;> simp [h]
theorem law_norm0 {h₀ h : Heap} {L : Addr} {d l a x1 x2 x3 x4 x5 x6 : Addr × Obj} {new : List (Addr × Obj)} (N : News h₀ L h (d :: l :: a :: (new ++ [x1, x2, x3, x4, x5, x6]))) :
    News h₀ L h (d :: l :: x1 :: x2 :: x3 :: x4 :: x5 :: x6 :: a :: new) :=
  news_sub N fun p hp => by
    simp only [List.mem_cons, List.mem_append, List.not_mem_nil, or_false] at hp ⊢
    rcases hp with h | h | h | h | h | h | h | h | h | h <;> simp [h]
theorem law_pick {h₀ h : Heap} {L d l dd rx rdx lx ldx pd : Addr} {o1 o2 o3 o4 o5 o6 o7 o8 : Obj} (_ : News h₀ L h [(d, o1), (l, o2), (dd, o3), (rx, o4), (rdx, o5), (lx, o6), (ldx, o7), (pd, o8)]) :
    ∃ d' l' dd' rx' rdx' lx' ldx' pd' : Addr, d' = d ∧ l' = l ∧ dd' = dd ∧ rx' = rx ∧ rdx' = rdx ∧ lx' = lx ∧ ldx' = ldx ∧ pd' = pd := ⟨_, _, _, _, _, _, _, _, rfl, rfl, rfl, rfl, rfl, rfl, rfl, rfl⟩
/-- the order of the cells that last -/
def Chain (d l dd rx rdx lx ldx pd : Addr) : Prop := @LT.lt Nat _ l d ∧ @LT.lt Nat _ d ldx ∧ @LT.lt Nat _ ldx lx ∧ @LT.lt Nat _ lx pd ∧ @LT.lt Nat _ pd rdx ∧ @LT.lt Nat _ rdx rx ∧ @LT.lt Nat _ rx dd
theorem chain_mk {d l dd rx rdx lx ldx pd : Addr} (h1 : l < d) (h2 : d < ldx) (h3 : ldx < lx) (h4 : lx < pd) (h5 : pd < rdx) (h6 : rdx < rx) (h7 : rx < dd) : Chain d l dd rx rdx lx ldx pd := ⟨h1, h2, h3, h4, h5, h6, h7⟩
theorem Chain.ld {d l dd rx rdx lx ldx pd : Addr} (h : Chain d l dd rx rdx lx ldx pd) : l ≠ d := Nat.ne_of_lt h.1
theorem Chain.hr {d l dd rx rdx lx ldx pd : Addr} {o3 o4 o5 o6 o7 o8 : Obj} (h : Chain d l dd rx rdx lx ldx pd) : ∀ p ∈ [(dd, o3), (rx, o4), (rdx, o5), (lx, o6), (ldx, o7), (pd, o8)], p.1 ≠ d := by
  obtain ⟨h1, h2, h3, h4, h5, h6, h7⟩ := h
  intro p hp
  simp only [List.mem_cons, List.not_mem_nil, or_false] at hp
  rcases hp with rfl | rfl | rfl | rfl | rfl | rfl <;> (show @Ne Nat _ _) <;> (dsimp only; omega)
section
variable {d l dd rx rdx lx ldx pd : Addr} {o1 o2 o3 o4 o5 o6 o7 o8 : Obj} {tail : List (Addr × Obj)}
theorem upd_d (h : Chain d l dd rx rdx lx ldx pd) (ht : ∀ p ∈ tail, p.1 ≠ d) : UpdF d o1 ((d, o1) :: (l, o2) :: (dd, o3) :: (rx, o4) :: (rdx, o5) :: (lx, o6) :: (ldx, o7) :: (pd, o8) :: tail) (fun o' => (d, o') :: (l, o2) :: (dd, o3) :: (rx, o4) :: (rdx, o5) :: (lx, o6) :: (ldx, o7) :: (pd, o8) :: tail) := by
  obtain ⟨h1, h2, h3, h4, h5, h6, h7⟩ := h
  refine .head fun p hp => ?_
  simp only [List.mem_cons] at hp
  rcases hp with rfl | rfl | rfl | rfl | rfl | rfl | rfl | hp
  all_goals first | exact ht p hp | ((show @Ne Nat _ _); (dsimp only; omega))
theorem upd_dd (h : Chain d l dd rx rdx lx ldx pd) (ht : ∀ p ∈ tail, p.1 ≠ dd) : UpdF dd o3 ((d, o1) :: (l, o2) :: (dd, o3) :: (rx, o4) :: (rdx, o5) :: (lx, o6) :: (ldx, o7) :: (pd, o8) :: tail) (fun o' => (d, o1) :: (l, o2) :: (dd, o') :: (rx, o4) :: (rdx, o5) :: (lx, o6) :: (ldx, o7) :: (pd, o8) :: tail) := by
  obtain ⟨h1, h2, h3, h4, h5, h6, h7⟩ := h
  refine .tail ?_ (.tail ?_ (.head fun p hp => ?_))
  · (show @Ne Nat _ _); (dsimp only; omega)
  · (show @Ne Nat _ _); (dsimp only; omega)
  simp only [List.mem_cons] at hp
  rcases hp with rfl | rfl | rfl | rfl | rfl | hp
  all_goals first | exact ht p hp | ((show @Ne Nat _ _); (dsimp only; omega))
theorem upd_pd (h : Chain d l dd rx rdx lx ldx pd) (ht : ∀ p ∈ tail, dd < p.1) : UpdF pd o8 ((d, o1) :: (l, o2) :: (dd, o3) :: (rx, o4) :: (rdx, o5) :: (lx, o6) :: (ldx, o7) :: (pd, o8) :: tail) (fun o' => (d, o1) :: (l, o2) :: (dd, o3) :: (rx, o4) :: (rdx, o5) :: (lx, o6) :: (ldx, o7) :: (pd, o') :: tail) := by
  obtain ⟨h1, h2, h3, h4, h5, h6, h7⟩ := h
  refine .tail ?_ (.tail ?_ (.tail ?_ (.tail ?_ (.tail ?_ (.tail ?_ (.tail ?_ (.head fun p hp => ?_)))))))
  all_goals first | ((show @Ne Nat _ _); (dsimp only; omega)) | skip
  have := ht p hp
  exact Nat.ne_of_gt (Nat.lt_trans h5 (Nat.lt_trans h6 (Nat.lt_trans h7 this)))
/-- what lies past the cells that last -/
theorem tail_gt {p8 : Addr} {o : Obj} {R : List (Addr × Obj)} (h8 : dd < p8) (hR : ∀ p ∈ R, p8 < p.1) : ∀ p ∈ (p8, o) :: R, dd < p.1 := by
  intro p hp
  cases hp with
  | head => exact h8
  | tail _ hp => exact Nat.lt_trans h8 (hR p hp)
theorem tail_d (h : Chain d l dd rx rdx lx ldx pd) (ht : ∀ p ∈ tail, dd < p.1) : ∀ p ∈ tail, p.1 ≠ d := by
  obtain ⟨h1, h2, h3, h4, h5, h6, h7⟩ := h
  exact fun p hp => Nat.ne_of_gt (Nat.lt_trans (by show @LT.lt Nat _ _ _; omega) (ht p hp))
theorem tail_dd (ht : ∀ p ∈ tail, dd < p.1) : ∀ p ∈ tail, p.1 ≠ dd := fun p hp => Nat.ne_of_gt (ht p hp)
end
end Mine
namespace Mine
section
variable {prog : Program} {w : World} {A : Around} {E : Value → Shared → Prop} {s : Shared}
theorem range_from {n k : Nat} (h : k < n) : List.range' k (n - k) = k :: List.range' (k + 1) (n - (k + 1)) := by
  have e : n - k = (n - (k + 1)) + 1 := by omega
  rw [e, List.range'_succ]
theorem tuple_index_tree {t : Addr} {items : Array Value} {x : Str} {u : Tok} {j : Nat} {P : Fin → Shared → Prop} (ht : IsTup s.heap t items) (hj : j < items.size)
    (hit : ∃ tk, items[j]? = some (.str x tk)) (hno : ∀ k, k < j → ∃ y tk, items[k]? = some (.str y tk) ∧ (y == x) = false)
    (h : P (.done (.ret (.int (j : Int) s.toks))) { s with toks := s.toks + 1 }) : wpAny (model prog w) A (Builtin.«tuple.index» ⟨[.ref t, .str x u], []⟩) P E s := by
  show wpAny _ _ (Builtin.Tuple.tupleItemsOf (.ref t) >>= _) _ _ s
  refine wpAny_bind (tupleItemsOf_ ht ?_)
  dsimp only
  refine wpAny_bind (wpAny_pure (wpAny_bind (wpAny_pure (wpAny_bind ?_))))
  rw [Std.Legacy.Range.forIn_eq_forIn_range']
  simp only [Std.Legacy.Range.size, Nat.sub_zero, Nat.min_self, Nat.add_one_sub_one, Nat.div_one]
  refine wpAny_forIn_list _ (fun rest b s' => ∃ k, k ≤ j ∧ rest = List.range' k (items.size - k) ∧ b.1 = none ∧ s' = s) _ ?_ ?_ _ _ ⟨0, Nat.zero_le _, by simp, rfl, rfl⟩
  · rintro i rest b s' ⟨k, hk, e, hb, rfl⟩
    rw [range_from (by omega)] at e
    injection e with e1 e2
    subst e1
    by_cases hkj : i = j
    · subst hkj
      obtain ⟨tk, hx⟩ := hit
      rw [hx]
      dsimp only
      refine wpAny_bind (eqBool_str ?_)
      simp only [beq_self_eq_true, if_true]
      refine wpAny_bind ?_
      unfold retInt
      refine wpAny_bind (wpAny_mkInt ?_)
      refine wpAny_pure (wpAny_pure (wpAny_pure ?_))
      exact h
    · obtain ⟨y, tk, hx, hne⟩ := hno i (by omega)
      rw [hx]
      dsimp only
      refine wpAny_bind (eqBool_str ?_)
      rw [hne]
      exact wpAny_pure ⟨i + 1, by omega, e2, rfl, rfl⟩
  · rintro b s' ⟨k, hk, e, hb, rfl⟩
    exfalso
    rw [range_from (by omega)] at e
    cases e
def idxS : List Value → Str → Option Nat
  | .str y _ :: r, x => if y == x then some 0 else (idxS r x).map (· + 1)
  | _, _ => none
theorem idxS_at : ∀ {l : List Value} {x : Str} {j : Nat}, idxS l x = some j → j < l.length ∧ (∃ tk, l[j]? = some (.str x tk)) ∧ ∀ k, k < j → ∃ y tk, l[k]? = some (.str y tk) ∧ (y == x) = false
  | [], _, _, h => by simp [idxS] at h
  | v :: r, x, j, h => by
    cases v with
    | str y t =>
      unfold idxS at h
      by_cases e : (y == x) = true
      · rw [if_pos e] at h
        cases h
        have e' : y = x := eq_of_beq e
        subst e'
        exact ⟨by simp, ⟨t, rfl⟩, fun k hk => absurd hk (Nat.not_lt_zero _)⟩
      · rw [if_neg e] at h
        cases hr : idxS r x with
        | none => rw [hr] at h; cases h
        | some i =>
          rw [hr] at h
          cases h
          obtain ⟨h1, h2, h3⟩ := idxS_at hr
          refine ⟨by simpa using h1, by simpa using h2, fun k hk => ?_⟩
          cases k with
          | zero => exact ⟨y, t, rfl, by simpa using e⟩
          | succ k => simpa using h3 k (Nat.lt_of_succ_lt_succ hk)
    | _ => unfold idxS at h; cases h
theorem topT_method {K : Frag} {h₀ : Heap} {L : Addr} {m : Str → Option Value} {t : Addr} {items : Array Value} {n : Nat} {sl : Array (Option Value)} {pl : Sem Bool} {Q : Value × List Value → Shared → Prop} (F : Fr h₀ L s.heap m) (X₀ : K.In h₀)
    (ho : K.lookup t = some { cls := .type "tuple", dict := none, data := .seq items n, slots := sl }) (h : Q (.builtin "tuple.index", [.ref t]) s) : wpAny (model prog w) A (getMethod (.ref t) "index" pl) Q E s :=
  getMethod_builtin ⟨_, (X₀.keeps F.keep) _ _ ho, rfl⟩ PySem.F.plainAttrs_tuple PySem.F.slot_tuple_index PySem.F.type_tuple_index (fun a e => by cases e; exact ⟨_, (X₀.keeps F.keep) _ _ ho, rfl⟩) h
theorem topT_index {K : Frag} {h₀ : Heap} {L : Addr} {m : Str → Option Value} {t : Addr} {items : Array Value} {n : Nat} {sl : Array (Option Value)} {x : Str} {u : Tok} {j : Nat} {Q : Value → Shared → Prop} (F : Fr h₀ L s.heap m) (X₀ : K.In h₀)
    (ho : K.lookup t = some { cls := .type "tuple", dict := none, data := .seq items n, slots := sl }) (hj : idxS items.toList x = some j) (h : Q (.int (j : Int) s.toks) { s with toks := s.toks + 1 }) : wpAny (model prog w) A (call (.builtin "tuple.index") [.ref t, .str x u]) Q E s := by
  have ht := kun_topT F X₀ ho
  obtain ⟨h1, h2, h3⟩ := idxS_at hj
  refine wpAny_call_entry PySem.F.slot_tuple_index ht.typeIs PySem.F.entry_tuple_index (tuple_index_tree ht (by simpa using h1) (by simpa using h2) (by simpa using h3) ⟨_, rfl, h⟩) (PySem.F.args_tuple_index_2 _ _)
end
end Mine
namespace Mine
section
variable {prog : Program} {w : World} {A : Around} {E : Value → Shared → Prop} {s : Shared} {env : Env} {h₀ : Heap} {target : Expr} {body : List Stmt} {Q : Flow → Shared → Prop}
/-- a loop over a tuple of the ledger; the ledger stays, the frame's names but «stored» stay -/
theorem tup_turns {L : Addr} (hL : env.locals = L) {l : Addr} {vs : List Value} {nn : Nat} {m₀ : Str → Option Value} {news : List (Addr × Obj)} (stored : List Str) (P : Nat → Prop)
    (hh : A.handled = none) (hl : (l, tupO vs nn) ∈ news) (F : Fr h₀ L s.heap m₀) (N : News h₀ L s.heap news) (h0 : P 0)
    (turn : ∀ i v (u : Str → Option Value) h tk own, vs[i]? = some v → P i → OwnOff own (news.map (·.1)) → Fr h₀ L h (fun z => if stored.contains z then u z else m₀ z) → News h₀ L h (news ++ own) →
      wpAny (model prog w) A (assign target env v) (fun _ s₃ => wpAny (model prog w) A (execs body env)
        (InvPostN h₀ L (fun m' nx => nx = news ∧ (∀ z, stored.contains z = false → m' z = m₀ z) ∧ P (i + 1)) own (news.map (·.1)) { s with heap := h, toks := tk } Q) E s₃) E { s with heap := h, toks := tk })
    (done : ∀ (u : Str → Option Value) h tk, P vs.length → Fr h₀ L h (fun z => if stored.contains z then u z else m₀ z) → News h₀ L h news → Q .next { s with heap := h, toks := tk }) :
    wpAny (model prog w) A (pyIter (.ref l)) (fun it s₂ => TurnsAt prog w A h₀ env target body Q E it s₂) E s := by
  subst hL
  have hol : s.heap.get? l = some (tupO vs nn) := (N _ hl).1
  have hls : s.heap.IsTuple l vs.toArray := ⟨_, hol, rfl, nn, rfl⟩
  have hne : l ≠ s.heap.objs.size := Nat.ne_of_lt (Heap.lt_size hol)
  refine wpAny_pyIter_tuple hls ?_
  have W := Walks.tuple (prog := prog) (w := w) hh s.heap.objs.size l hne vs.toArray
  have hlen : vs.toArray.size = vs.length := by simp
  rw [hlen] at W
  refine ⟨_, _, _, vs.length, _, _, _, m₀, news, (fun i m nx => nx = news ∧ (∀ z, stored.contains z = false → m z = m₀ z) ∧ P i), rfl, KTurns.ofWalks W (fun i v s Q E st q => letGo_tupleiter st.1 q), ?_, ?_, ?_, ⟨⟨_, Heap.get?_push_size _ rfl, rfl, rfl⟩, hls.at fun o e => Heap.get?_push_of_some _ e⟩, F.push _, (fun p hp => ⟨Heap.get?_push_of_some _ (N p hp).1, (N p hp).2⟩), ⟨rfl, fun _ _ => rfl, h0⟩, ?_, ?_⟩
  · intro hm
    rcases List.mem_cons.mp hm with e | hm
    · exact absurd F.ns.lt (e ▸ Nat.lt_irrefl _)
    · exact (N _ hl).2.1 ((List.mem_singleton.mp hm).symm)
  · intro b hb
    rw [List.mem_singleton.mp hb]
    exact next_is_new F
  · intro p hp hI
    exact absurd (Heap.lt_size (N p hp).1) ((List.mem_singleton.mp hI) ▸ Nat.lt_irrefl _)
  · rintro i v m₁ news₁ hh' tk' own hin hP ⟨rfl, hm, hJ⟩ hoff hown hget hfp hst F₁ N₁
    have hP' : vs[i]? = some v := by simpa using hP
    have hI0 : h₀.get? s.heap.objs.size = none := next_is_new F
    obtain ⟨⟨oI, hoI, _⟩, _⟩ := id hst
    have hIown : (s.heap.objs.size, oI) ∈ own.filter fun p => decide (p.1 = s.heap.objs.size) := List.mem_filter.mpr ⟨hfp _ (List.mem_cons.mpr (.inl rfl)) hI0 _ hoI, by simp⟩
    have hsep : OwnOff (own.filter fun p => decide (p.1 = s.heap.objs.size)) (news₁.map (·.1)) := by
      intro p hp b hb e
      obtain ⟨q, hq, rfl⟩ := List.mem_map.mp hb
      have h1 : p.1 = s.heap.objs.size := by simpa using (List.mem_filter.mp hp).2
      exact hoff q hq (List.mem_singleton.mpr (e ▸ h1))
    have N₂ : News h₀ env.locals hh' (news₁ ++ own.filter fun p => decide (p.1 = s.heap.objs.size)) := fun p hp => N₁ p ((List.mem_append.mp hp).elim (fun h => List.mem_append.mpr (.inr h)) fun h => List.mem_append.mpr (.inl ((List.mem_filter.mp h).1)))
    have hlo : hh'.get? l = some (tupO vs nn) := (N₁ _ (List.mem_append.mpr (.inr hl))).1
    rw [frame_st hm] at F₁
    refine wpAny_mono (turn i v m₁ hh' tk' _ hP' hJ hsep F₁ N₂) (fun _ s₂ p => wpAny_mono p (fun f s₃ p => ?_) fun _ _ e => e) fun _ _ e => e
    have fin : InvEndN h₀ env.locals (fun m' nx => nx = news₁ ∧ (∀ z, stored.contains z = false → m' z = m₀ z) ∧ P (i + 1)) (own.filter fun p => decide (p.1 = s.heap.objs.size)) (news₁.map (·.1)) { s with heap := hh', toks := tk' } s₃ →
        LoopStepU h₀ env.locals [s.heap.objs.size] own (fun m nx => nx = news₁ ∧ (∀ z, stored.contains z = false → m z = m₀ z) ∧ P (i + 1)) { s with heap := hh', toks := tk' } .next s₃ := by
      rintro ⟨h', tk, m', news', nx, e, F', N', hn, ho, ha, hm'⟩
      refine ⟨rfl, h', tk, m', nx, e, F', fun p hp => ?_, fun p hp hq => ?_, hm'⟩
      · rcases List.mem_append.mp hp with h | h
        · by_cases hI : p.1 = s.heap.objs.size
          · exact N' p (ho p (List.mem_filter.mpr ⟨h, by simpa using hI⟩))
          · have h1 : p.1 = l := by
              rcases List.mem_cons.mp (hown p h) with h2 | h2
              · exact absurd h2 hI
              · exact List.mem_singleton.mp h2
            have h2 : hh'.get? p.1 = some p.2 := hget p h
            rw [h1, hlo] at h2
            have h3 : p = (l, tupO vs nn) := Prod.ext h1 (Option.some.inj h2).symm
            rw [h3]
            exact N' _ (hn _ (hm'.1 ▸ hl))
        · exact N' p (hn p h)
      · rw [hm'.1] at hp
        exact hoff p hp hq
    cases f with
    | ret v => exact .ret p
    | brk => exact .brk p
    | next => exact .next (fin p)
    | cont => exact .cont (fin p)
  · rintro h' tk m' news' F' N' _ ⟨rfl, hm, hJ⟩
    rw [frame_st hm] at F'
    exact done m' h' tk hJ F' N'
end
section
variable {prog : Program} {w : World} {A : Around} {E : Value → Shared → Prop} {s : Shared} {h₀ : Heap} {L : Addr} {m : Str → Option Value} {news : List (Addr × Obj)} {value slice : Expr} {Q : Value → Shared → Prop}
theorem sl_take {l : Addr} {vs : List Value} {n : Nat} {k : Int} {u : Tok} (F : Fr h₀ L s.heap m) (N : News h₀ L s.heap news) (hm : (l, listOf vs.toArray n) ∈ news) (hk : 0 ≤ k) (hz : vs.length ≤ 1000)
    (h : ∀ D h', Fr h₀ L h' m → News h₀ L h' ((D, listOf (vs.take k.toNat).toArray 0) :: news) → (∀ p ∈ news, p.1 < D) → Q (.ref D) { s with heap := h' })
    (hs : subscripted slice false (.ref l) (.ref s.heap.objs.size) = operate [.ref s.heap.objs.size, .ref l] (getItem (.ref l) (.ref s.heap.objs.size)) := by with_unfolding_all rfl)
    (ht : ∀ r, letTemporaryGo value (.ref l) r = pure () := by intro _; with_unfolding_all rfl) :
    wpAny (model prog w) A (subscriptTail value slice (.ref l) (.ref s.heap.objs.size)) Q E { s with heap := s.heap.push { cls := .type "slice", data := .fields #[.none, .int k u, .none] } } := by
  refine kmk_slice_lit F N (News.isList N hm) .none (.int k u) ?_ h hs ht (by rw [sizeLine_eq]; simp; omega)
  have e : sliceBounds none (some k) none vs.toArray.size = (((0 : Nat) : Int), ((min k.toNat vs.toArray.size : Nat) : Int), 1) := by
    simp only [sliceBounds, Option.getD_none, show (1 : Int) > 0 by decide, if_true, if_neg (show ¬ (k < 0) by omega)]
    congr 1
    congr 1
    omega
  rw [kmk_pick_nat _ e]
  show (vs.drop 0).take (min k.toNat vs.toArray.size - 0) = _
  rw [List.drop_zero, Nat.sub_zero, List.size_toArray, kmk_take_min]
theorem sl_drop {l : Addr} {vs : List Value} {n : Nat} {k : Int} {u : Tok} (F : Fr h₀ L s.heap m) (N : News h₀ L s.heap news) (hm : (l, listOf vs.toArray n) ∈ news) (hk : 0 ≤ k) (hz : vs.length ≤ 1000)
    (h : ∀ D h', Fr h₀ L h' m → News h₀ L h' ((D, listOf (vs.drop k.toNat).toArray 0) :: news) → (∀ p ∈ news, p.1 < D) → Q (.ref D) { s with heap := h' })
    (hs : subscripted slice false (.ref l) (.ref s.heap.objs.size) = operate [.ref s.heap.objs.size, .ref l] (getItem (.ref l) (.ref s.heap.objs.size)) := by with_unfolding_all rfl)
    (ht : ∀ r, letTemporaryGo value (.ref l) r = pure () := by intro _; with_unfolding_all rfl) :
    wpAny (model prog w) A (subscriptTail value slice (.ref l) (.ref s.heap.objs.size)) Q E { s with heap := s.heap.push { cls := .type "slice", data := .fields #[.int k u, .none, .none] } } := by
  refine kmk_slice_lit F N (News.isList N hm) (.int k u) .none ?_ h hs ht (by rw [sizeLine_eq]; simp; omega)
  have e : sliceBounds (some k) none none vs.toArray.size = (((min k.toNat vs.toArray.size : Nat) : Int), ((vs.toArray.size : Nat) : Int), 1) := by
    simp only [sliceBounds, Option.getD_none, show (1 : Int) > 0 by decide, if_true, if_neg (show ¬ (k < 0) by omega)]
    congr 1
    omega
  rw [kmk_pick_nat _ e]
  show (vs.drop (min k.toNat vs.toArray.size)).take (vs.toArray.size - min k.toNat vs.toArray.size) = _
  rw [List.size_toArray, kmk_drop_min, List.take_of_length_le (by rw [List.length_drop]; omega)]
theorem add_ls {l b : Addr} {vs ws : List Value} {n n2 : Nat} (F : Fr h₀ L s.heap m) (N : News h₀ L s.heap news) (hl : (l, listOf vs.toArray n) ∈ news) (hb : (b, listOf ws.toArray n2) ∈ news) (hz : vs.length + ws.length ≤ 1000)
    (h : ∀ D h', Fr h₀ L h' m → News h₀ L h' ((D, listOf (vs ++ ws).toArray 0) :: news) → (∀ p ∈ news, p.1 < D) → Q (.ref D) { s with heap := h' }) : wpAny (model prog w) A (binaryOp .Add (.ref l) (.ref b)) Q E s :=
  add_lists F N (News.isList N hl) (News.isList N hb) (fun h' F' N' => h _ h' F' N' fun p hp => Heap.lt_size (N p hp).1) (by rw [sizeLine_eq]; omega)
theorem copy_ls {l : Addr} {vs : List Value} {n : Nat} (F : Fr h₀ L s.heap m) (N : News h₀ L s.heap news) (hl : (l, listOf vs.toArray n) ∈ news) (hz : vs.length ≤ 1000)
    (h : ∀ D c h', Fr h₀ L h' m → News h₀ L h' ((D, listOf vs.toArray c) :: news) → (∀ p ∈ news, p.1 < D) → Q (.ref D) { s with heap := h' }) : wpAny (model prog w) A (call (.type "list") [.ref l]) Q E s :=
  list_copyK F N (News.isList N hl) h (by rw [sizeLine_eq]; simp; omega)
theorem copy_d {K : Type} [DecidableEq K] {knd : KeyKind prog w K} {o : Obj} {a : Addr} {kvs : List (K × Value)} (F : Fr h₀ L s.heap m) (N : News h₀ L s.heap news) (hbig : h₀.NoLimit) (hm : (a, o) ∈ news) (hop : o.IsDictOf knd kvs) (hlo : (a == sysModules) = false) (hz : kvs.length ≤ 1000)
    (h : ∀ D h' o', Fr h₀ L h' m → News h₀ L h' ((D, o') :: news) → (D == sysModules) = false → o'.IsDictOf knd kvs → (∀ p ∈ news, p.1 < D) → Q (.ref D) { s with heap := h' }) : wpAny (model prog w) A (call (.type "dict") [.ref a]) Q E s := by
  refine kt_call_dict hlo (kda_dict N hm hop) (by rw [sizeLine_eq]; omega) fun h' hm' hs => ?_
  obtain ⟨o', ho', hd'⟩ := Heap.dictOf_iff.mp hm'
  have N1 := News.push F N { cls := .type "dict", data := .dict #[] }
  exact h _ h' o' ((F.push _).change hs (N1 _ (.head _)).2.1 (N1.fresh (.head _))) (N1.setHead N.apart hs ho') (F.notModules (modules_low hbig)) hd' fun p hp => Heap.lt_size (N p hp).1
theorem ne_d {K : Type} [DecidableEq K] {knd : KeyKind prog w K} {o o' : Obj} {a b : Addr} {k : K} {v : Value} (N : News h₀ L s.heap news) (hm : (a, o) ∈ news) (hop : o.IsDictOf knd [(k, v)]) (hlo : (a == sysModules) = false) (hm' : (b, o') ∈ news) (hop' : o'.IsDictOf knd [(k, v)]) (hlo' : (b == sysModules) = false) (hu : A.units < cLine)
    (h : Q (.bool false) s) : wpAny (model prog w) A (compareOp .NotEq (.ref a) (.ref b)) Q E s := by
  refine keq_ne (r := true) hlo hlo' (kda_dict N hm hop) (kda_dict N hm' hop') hu (fun _ => ?_) ?_
  · exact KeqHits.hit (by simp [valueAt]) (SeqAt.EqAt.same v) .nil
  · simpa using h
theorem in_ns {l : Addr} {vs : List Value} {ns : List Int} {n : Nat} {k : Int} {t : Tok} (N : News h₀ L s.heap news) (hl : (l, listOf vs.toArray n) ∈ news) (hi : IntsAre vs ns) (h : Q (.bool (ns.any (· == k))) s) : wpAny (model prog w) A (compareOp .In (.int k t) (.ref l)) Q E s :=
  in_list_ints (News.isList N hl) hi h
end
/-- what is read of a word, and its bounds -/
def GoodD (d : PyData) : Prop := d.showable = true ∧ d.hasDict = false ∧ d.intsShort 13 = true ∧ d.canLay0 = true ∧ d.depth ≤ 1 ∧ d.weight ≤ 200
theorem short_lt : ∀ i : Nat, i < 1000 → (PyData.int (i : Int)).intsShort 13 = true := by
  intro i hi
  have h : ∀ j : Fin 1000, (PyData.int ((j.val : Nat) : Int)).intsShort 13 = true := by decide +kernel
  exact h ⟨i, hi⟩
theorem short_int {i : Int} (h0 : 0 ≤ i) (h1 : i < 1000) : (PyData.int i).intsShort 13 = true := by
  obtain ⟨n, rfl⟩ := Int.eq_ofNat_of_zero_le h0
  exact short_lt n (by omega)
theorem log_int {i : Int} (h0 : 0 ≤ i) (h1 : i < 1000) : i.natAbs.log2 < 10 := by
  by_cases h : i.natAbs = 0
  · rw [h]; decide
  · exact (Nat.log2_lt h).mpr (by omega)
theorem weight_int {i : Int} (h0 : 0 ≤ i) (h1 : i < 1000) : (PyData.int i).weight ≤ 10 := by
  have := log_int h0 h1
  unfold PyData.weight
  split
  · omega
  · omega
theorem good_int {i : Int} (h0 : 0 ≤ i) (h1 : i < 1000) : GoodD (.int i) := by
  refine ⟨?_, rfl, short_int h0 h1, rfl, by simp [PyData.depth], by have := weight_int h0 h1; omega⟩
  have := log_int h0 h1
  simp [PyData.showable]
  omega
theorem good_tag {x : Str} {i : Int} (h0 : 0 ≤ i) (h1 : i < 1000) (hx : PyData.strOk x = true) (hz : x.cps.size ≤ 20) : GoodD (.tuple [.str x, .int i]) := by
  obtain ⟨a1, a2, a3, a4, a5, a6⟩ := good_int h0 h1
  have := weight_int h0 h1
  refine ⟨by simp [PyData.showable, PyData.showableAll] at a1 ⊢; exact a1, rfl, ?_, ?_, ?_, ?_⟩
  · simp only [PyData.intsShort, PyData.intsShortAll, Bool.and_true, Bool.true_and] at a3 ⊢; exact a3
  · simp [PyData.canLay0, PyData.canLayAll0, hx]
  · simp [PyData.depth, PyData.depthAll]
  · have e : (PyData.tuple [.str x, .int i]).weight = x.cps.size + 1 + ((PyData.int i).weight + 1 + 0) := by simp [PyData.weight, PyData.weightAll]
    omega
theorem val_reads {news : List (Addr × Obj)} {v : Value} (h : ValIs news v) : ∃ d as, (∀ h₀ L h, News h₀ L h news → Reads h v d as) ∧ GoodD d := by
  cases h with
  | none => exact ⟨_, _, fun _ _ _ _ => .none, rfl, rfl, rfl, rfl, by simp [PyData.depth], by simp [PyData.weight]⟩
  | tru => exact ⟨_, _, fun _ _ _ _ => .bool _, rfl, rfl, rfl, rfl, by simp [PyData.depth], by simp [PyData.weight]⟩
  | num h0 h1 => exact ⟨_, _, fun _ _ _ _ => .int _ _, good_int h0 h1⟩
  | sym h0 h1 hm => exact ⟨_, _, fun _ _ _ N => reads_tuple_at (News.get N hm) rfl rfl (ReadsAll.cons (Reads.str _ _) (ReadsAll.cons (Reads.int _ _) ReadsAll.nil)), good_tag h0 h1 (by decide +kernel) (by decide +kernel)⟩
  | lst h0 h1 hm => exact ⟨_, _, fun _ _ _ N => reads_tuple_at (News.get N hm) rfl rfl (ReadsAll.cons (Reads.str _ _) (ReadsAll.cons (Reads.int _ _) ReadsAll.nil)), good_tag h0 h1 (by decide +kernel) (by decide +kernel)⟩
structure GoodDs (ds : List PyData) : Prop where
  a1 : PyData.showableAll ds = true
  a2 : PyData.hasDictAll ds = false
  a3 : PyData.intsShortAll 13 ds = true
  a4 : PyData.canLayAll0 ds = true
  a5 : PyData.depthAll ds ≤ 2
  a6 : PyData.weightAll ds ≤ 300 * ds.length
theorem plist_reads {news : List (Addr × Obj)} {vs : List Value} {ps : List (Int × Value)} (hp : PlistIs news vs ps) : (∀ p ∈ ps, 0 ≤ p.1 ∧ p.1 < 1000 ∧ ValIs news p.2) → ∃ ds as, (∀ h₀ L h, News h₀ L h news → ReadsAll h vs ds as) ∧ GoodDs ds ∧ ds.length = ps.length := by
  induction hp with
  | nil => exact fun _ => ⟨[], [], fun _ _ _ _ => .nil, ⟨rfl, rfl, rfl, rfl, by simp [PyData.depthAll], by simp [PyData.weightAll]⟩, rfl⟩
  | @cons v p vs ps h1 hps ih =>
    intro hv
    obtain ⟨ds, as, hr, hg, hl⟩ := ih fun q hq => hv q (.tail _ hq)
    obtain ⟨h0, hlt, hval⟩ := hv p (.head _)
    obtain ⟨d, bs, hd, hgd⟩ := val_reads hval
    cases h1 with
    | mk hm =>
      rename_i n _ x _
      obtain ⟨b1, b2, b3, b4, b5, b6⟩ := good_int h0 hlt
      obtain ⟨c1, c2, c3, c4, c5, c6⟩ := hgd
      obtain ⟨e1, e2, e3, e4, e5, e6⟩ := hg
      have hw := weight_int h0 hlt
      refine ⟨.tuple [.int n, d] :: ds, _, fun h₀ L h N => .cons (reads_tuple_at (News.get N hm) rfl rfl (ReadsAll.cons (Reads.int _ _) (ReadsAll.cons (hd h₀ L h N) ReadsAll.nil))) (hr h₀ L h N), ⟨?_, ?_, ?_, ?_, ?_, ?_⟩, by simp [hl]⟩
      · simp only [PyData.showableAll, PyData.showable, Bool.and_true, Bool.and_eq_true] at b1 c1 e1 ⊢; exact ⟨⟨b1, c1⟩, e1⟩
      · simp only [PyData.hasDictAll, PyData.hasDict, Bool.or_false, Bool.or_eq_false_iff, Bool.false_or] at b2 c2 e2 ⊢; exact ⟨c2, e2⟩
      · simp only [PyData.intsShortAll, PyData.intsShort, Bool.and_true, Bool.and_eq_true] at b3 c3 e3 ⊢; exact ⟨⟨b3, c3⟩, e3⟩
      · simp only [PyData.canLayAll0, PyData.canLay0, Bool.and_true, Bool.true_and, Bool.and_eq_true] at b4 c4 e4 ⊢; exact ⟨c4, e4⟩
      · simp only [PyData.depthAll, PyData.depth] at b5 c5 e5 ⊢; omega
      · have e9 : (PyData.tuple [.int n, d]).weight = (PyData.int n).weight + 1 + (d.weight + 1 + 0) := by simp [PyData.weight, PyData.weightAll]
        have e8 : PyData.weightAll (.tuple [.int n, d] :: ds) = (PyData.tuple [.int n, d]).weight + 1 + PyData.weightAll ds := by simp [PyData.weightAll]
        rw [e8, e9, List.length_cons]
        simp only at hw
        omega
/-- what repr shows of a place's list: a text that hangs on the ledger alone -/
structure Text (news : List (Addr × Obj)) (P : Addr) (x : Str) : Prop where
  at_ : ∃ ds as, (∀ h₀ L h, News h₀ L h news → Reads h (.ref P) (.list ds) as) ∧ GoodDs ds ∧ ds.length ≤ 10 ∧ x = (PyData.list ds).shown
theorem Text.mono {news news' : List (Addr × Obj)} {P : Addr} {x : Str} (t : Text news P x) (hs : ∀ q ∈ news, q ∈ news') : Text news' P x := by
  obtain ⟨ds, as, h, r⟩ := t.at_
  exact ⟨ds, as, fun h₀ L h' N => h h₀ L h' (news_sub N hs), r⟩
section
variable {prog : Program} {w : World} {A : Around} {E : Value → Shared → Prop} {s : Shared} {h₀ : Heap} {L : Addr} {m : Str → Option Value} {news : List (Addr × Obj)} {Q : Value → Shared → Prop}
theorem repr_text {P : Addr} {x : Str} (F : Fr h₀ L s.heap m) (N : News h₀ L s.heap news) (t : Text news P x) (hg : A.guards = some []) (hu : A.units + 5 < cLine)
    (h : ∀ h' u tk, Fr h₀ L h' m → News h₀ L h' news → Q (.str x u) { s with heap := h', toks := tk }) : wpAny (model prog w) A (call (.builtin "repr") [.ref P]) Q E s := by
  obtain ⟨ds, as, hr, ⟨a1, a2, a3, a4, a5, a6⟩, hl, rfl⟩ := t.at_
  have hd : (PyData.list ds).depth ≤ 3 := by simp only [PyData.depth]; omega
  have hz : (PyData.list ds).shown.length ≤ sizeLine := by
    have h1 : (PyData.list ds).layable0 = true := by
      have hw : (PyData.list ds).weight ≤ 2 ^ 20 := by
        have e : (PyData.list ds).weight = PyData.weightAll ds := by simp [PyData.weight]
        rw [e]
        have : (2 : Nat) ^ 20 = 1048576 := by decide
        omega
      simp only [PyData.layable0, Bool.and_eq_true, decide_eq_true_eq]
      exact ⟨⟨by simpa [PyData.canLay0] using a4, by omega⟩, hw⟩
    have := shown_le13 h1 (by simpa [PyData.intsShort] using a3)
    rw [sizeLine_eq]
    omega
  refine PySem.repr_of_reads' (hr _ _ _ N) (by simpa [PyData.showable] using a1) (fun e => ?_) hg (by omega) (fun _ _ e => e) (fun h' u tk hk => h h' u tk (F.keeps hk) (N.keeps hk)) hz
  simp only [PyData.hasDict] at e
  rw [a2] at e
  cases e
end
/-- a place: its list, what it looks up, its category -/
structure PlaceIs (news : List (Addr × Obj)) (P : Addr) (ps : List (Int × Value)) (cat : Option V) : Prop where
  at_ : ∃ vs n, (P, listOf vs.toArray n) ∈ news ∧ PlistIs news vs ps
  few : ps.length ≤ 4
  cat : CatIs news ps cat
  uni : ∀ (i : Nat) x, ps[i]? = some ((20 : Int), x) → lookP 20 ps = some x
  vals : ∀ p ∈ ps, 0 ≤ p.1 ∧ p.1 < 1000 ∧ ValIs news p.2
theorem CatIs.mono {news news' : List (Addr × Obj)} {ps : List (Int × Value)} {cat : Option V} (h : CatIs news ps cat) (hs : ∀ q ∈ news, q ∈ news') : CatIs news' ps cat := by
  cases h with
  | none h => exact .none h
  | sym8 h h1 => exact .sym8 h (h1.mono hs)
  | sym9 h h1 => exact .sym9 h (h1.mono hs)
  | num h h1 => exact .num h (h1.mono hs)
  | lst h h1 => exact .lst h (h1.mono hs)
theorem PlaceIs.mono {news news' : List (Addr × Obj)} {P : Addr} {ps : List (Int × Value)} {cat : Option V} (h : PlaceIs news P ps cat) (hs : ∀ q ∈ news, q ∈ news') : PlaceIs news' P ps cat := by
  obtain ⟨⟨vs, n, hm, hp⟩, h1, h2, h3, h4⟩ := h
  exact ⟨⟨vs, n, hs _ hm, hp.mono hs⟩, h1, h2.mono hs, h3, fun p hp => ⟨(h4 p hp).1, (h4 p hp).2.1, (h4 p hp).2.2.mono hs⟩⟩
theorem PlaceIs.text {news : List (Addr × Obj)} {P : Addr} {ps : List (Int × Value)} {cat : Option V} (h : PlaceIs news P ps cat) : ∃ x, Text news P x := by
  obtain ⟨⟨vs, n, hm, hp⟩, h1, h2, h3, h4⟩ := h
  obtain ⟨ds, as, hr, hg, hl⟩ := plist_reads hp h4
  exact ⟨_, ds, _, fun h₀ L h N => reads_list_at (News.get N hm) rfl rfl (hr h₀ L h N), hg, by omega, rfl⟩
theorem PlistIs.append {news : List (Addr × Obj)} {vs us : List Value} {ps qs : List (Int × Value)} (h : PlistIs news vs ps) (h2 : PlistIs news us qs) : PlistIs news (vs ++ us) (ps ++ qs) := by
  induction h with
  | nil => exact h2
  | cons h1 _ ih => exact .cons h1 ih
theorem PlistIs.take {news : List (Addr × Obj)} {vs : List Value} {ps : List (Int × Value)} (h : PlistIs news vs ps) : ∀ k, PlistIs news (vs.take k) (ps.take k) := by
  induction h with
  | nil => intro k; simp; exact .nil
  | cons h1 _ ih =>
    intro k
    cases k with
    | zero => exact .nil
    | succ k => exact .cons h1 (ih k)
theorem PlistIs.drop {news : List (Addr × Obj)} {vs : List Value} {ps : List (Int × Value)} (h : PlistIs news vs ps) : ∀ k, PlistIs news (vs.drop k) (ps.drop k) := by
  induction h with
  | nil => intro k; simp; exact .nil
  | cons h1 h2 ih =>
    intro k
    cases k with
    | zero => exact .cons h1 h2
    | succ k => exact ih k
theorem lookP_skip {n : Int} {b : List (Int × Value)} : ∀ {a : List (Int × Value)}, (∀ p ∈ a, p.1 ≠ n) → lookP n (a ++ b) = lookP n b
  | [], _ => rfl
  | p :: a, h => by
    have e : lookP n (p :: (a ++ b)) = if p.1 = n then some p.2 else lookP n (a ++ b) := rfl
    show lookP n (p :: (a ++ b)) = _
    rw [e, if_neg (h p (.head _))]
    exact lookP_skip fun q hq => h q (.tail _ hq)
theorem lookP_no {n : Int} {a : List (Int × Value)} (h : ∀ p ∈ a, p.1 ≠ n) : lookP n a = none := by
  have := lookP_skip (b := []) h
  rw [List.append_nil] at this
  exact this
/-- the drawn pairs alone -/
theorem place_plain {news : List (Addr × Obj)} {P : Addr} {vs : List Value} {n : Nat} {ps : List (Int × Value)} (hm : (P, listOf vs.toArray n) ∈ news) (hp : PlistIs news vs ps) (hl : ps.length ≤ 3) (hv : ∀ p ∈ ps, 1 ≤ p.1 ∧ p.1 ≤ 4 ∧ ValIs news p.2) : PlaceIs news P ps none := by
  have h20 : ∀ p ∈ ps, p.1 ≠ 20 := fun p h => by have := hv p h; omega
  refine ⟨⟨vs, n, hm, hp⟩, by omega, .none (lookP_no h20), fun i x h => ?_, fun p h => ⟨by have := hv p h; omega, by have := hv p h; omega, (hv p h).2.2⟩⟩
  exact absurd rfl (h20 _ (List.mem_of_getElem? h))
theorem lookP_mid {x : Value} {a b : List (Int × Value)} (h : ∀ p ∈ a, p.1 ≠ 20) : lookP 20 (a ++ [(20, x)] ++ b) = some x := by
  rw [List.append_assoc, lookP_skip h]
  simp [lookP]
/-- with a category's pair in the middle -/
theorem place_word {news : List (Addr × Obj)} {D T S8 S9 L8 : Addr} {vs : List Value} {n k8 k9 kl kt k : Nat} {t8 t9 tl u8 u9 ul ui tt : Tok} {x : Value} {ps : List (Int × Value)} (hm : (D, listOf (vs.take k ++ [Value.ref T] ++ vs.drop k).toArray n) ∈ news) (ht : (T, tupO [.int 20 tt, x] kt) ∈ news)
    (h8 : (S8, tupO [.str (Str.ofString "symbol") t8, .int 8 u8] k8) ∈ news) (h9 : (S9, tupO [.str (Str.ofString "symbol") t9, .int 9 u9] k9) ∈ news) (hL : (L8, tupO [.str (Str.ofString "list") tl, .int 8 ul] kl) ∈ news)
    (hx : x ∈ [.ref S8, .ref S9, .int 8 ui, .ref L8]) (hp : PlistIs news vs ps) (hl : ps.length ≤ 3) (hv : ∀ p ∈ ps, 1 ≤ p.1 ∧ p.1 ≤ 4 ∧ ValIs news p.2) : ∃ ps' cat, PlaceIs news D ps' cat := by
  have h20 : ∀ p ∈ ps, p.1 ≠ 20 := fun p h => by have := hv p h; omega
  have ht20 : ∀ p ∈ ps.take k, p.1 ≠ 20 := fun p h => h20 p (List.mem_of_mem_take h)
  have hlook := lookP_mid (x := x) (b := ps.drop k) ht20
  have hcat : ∃ cat, CatIs news (ps.take k ++ [(20, x)] ++ ps.drop k) cat ∧ ValIs news x := by
    simp only [List.mem_cons, List.not_mem_nil, or_false] at hx
    rcases hx with rfl | rfl | rfl | rfl
    · exact ⟨_, .sym8 hlook (.sym h8), .sym (by decide) (by decide) h8⟩
    · exact ⟨_, .sym9 hlook (.sym h9), .sym (by decide) (by decide) h9⟩
    · exact ⟨_, .num hlook .num, .num (by decide) (by decide)⟩
    · exact ⟨_, .lst hlook (.lst hL), .lst (by decide) (by decide) hL⟩
  obtain ⟨cat, hc, hxv⟩ := hcat
  refine ⟨_, cat, ⟨_, n, hm, ((hp.take k).append (.cons (.mk ht) .nil)).append (hp.drop k)⟩, ?_, hc, fun i y h => ?_, fun p h => ?_⟩
  · simp only [List.length_append, List.length_take, List.length_drop, List.length_cons, List.length_nil]; omega
  · have hmem := List.mem_of_getElem? h
    simp only [List.mem_append, List.mem_cons, List.not_mem_nil, or_false] at hmem
    rcases hmem with (h1 | h1) | h1
    · exact absurd rfl (ht20 _ h1)
    · cases h1; exact hlook
    · exact absurd rfl (h20 _ (List.mem_of_mem_drop h1))
  · simp only [List.mem_append, List.mem_cons, List.not_mem_nil, or_false] at h
    have hgen : ∀ p ∈ ps, 0 ≤ p.1 ∧ p.1 < 1000 ∧ ValIs news p.2 := fun p h => ⟨by have := hv p h; omega, by have := hv p h; omega, (hv p h).2.2⟩
    rcases h with (h1 | rfl) | h1
    · exact hgen _ (List.mem_of_mem_take h1)
    · exact ⟨(by decide : (0 : Int) ≤ 20), (by decide : (20 : Int) < 1000), hxv⟩
    · exact hgen _ (List.mem_of_mem_drop h1)
theorem lookP_mem {n : Int} {x : Value} : ∀ {ps : List (Int × Value)}, lookP n ps = some x → ∃ p ∈ ps, p.2 = x
  | p :: ps, h => by
    unfold lookP at h
    split at h
    · cases h; exact ⟨p, .head _, rfl⟩
    · obtain ⟨q, hq, e⟩ := lookP_mem h; exact ⟨q, .tail _ hq, e⟩
theorem valueOf_is {news : List (Addr × Obj)} {ps ps8 : List (Int × Value)} {cat : Option V} {number : Int} (hv : ∀ p ∈ ps, ValIs news p.2) (hv8 : ∀ p ∈ ps8, ValIs news p.2) : ValIs news (valueOf number ps ps8 cat) := by
  unfold valueOf
  split
  · rename_i x h
    obtain ⟨p, hp, rfl⟩ := lookP_mem h
    exact hv p hp
  · split
    · cases h : lookP number ps8 with
      | none => exact .none
      | some x =>
        obtain ⟨p, hp, rfl⟩ := lookP_mem h
        exact hv8 p hp
    · exact .none
/-- the defaults: numbers alone, none at 99 -/
def DefOk (i : Nat) (kvs : List (Int × Value)) : Prop := (∀ n, IntOr (valueAt kvs n)) ∧ valueAt kvs 99 = none ∧ kvs.length ≤ i
theorem valueAt_append {k : Int} {a b : List (Int × Value)} : valueAt (a ++ b) k = (valueAt a k).or (valueAt b k) := by
  unfold valueAt
  rw [List.find?_append]
  cases h : List.find? (fun kv => decide (kv.1 = k)) a <;> simp
theorem valueAt_map {k j : Int} {v : Value} : ∀ {a : List (Int × Value)}, valueAt (a.map fun kv => if kv.1 = k then (kv.1, v) else kv) j = if j = k then (valueAt a j).map (fun _ => v) else valueAt a j
  | [] => by simp [valueAt]
  | p :: a => by
    have ih := valueAt_map (k := k) (j := j) (v := v) (a := a)
    unfold valueAt at ih ⊢
    rw [List.map_cons, List.find?_cons, List.find?_cons]
    by_cases h1 : p.1 = k <;> by_cases h2 : p.1 = j
    · simp [h1, h2]; simp [← h1, ← h2]
    · have h3 : ¬ (k = j) := fun e => h2 (h1.trans e)
      simp only [h1, if_true, h3, decide_false]
      rw [ih]
    · have h3 : ¬ (j = k) := fun e => h1 (h2.trans e)
      simp [h1, h2, h3]
    · simp only [h1, if_false, h2, decide_false]
      rw [ih]
theorem valueAt_stored {k j : Int} {v : Value} {a : List (Int × Value)} : valueAt (stored a k v) j = if j = k then some v else valueAt a j := by
  unfold stored
  split
  · rename_i h
    rw [valueAt_map]
    by_cases hj : j = k
    · subst hj
      simp only [if_true]
      have : (valueAt a j).isSome = true := by
        unfold valueAt
        rw [Option.isSome_map, List.find?_isSome]
        simpa using h
      cases hx : valueAt a j with
      | none => rw [hx] at this; cases this
      | some y => rfl
    · simp [hj]
  · rename_i h
    rw [valueAt_append]
    by_cases hj : j = k
    · subst hj
      have : valueAt a j = none := by
        unfold valueAt
        rw [Option.map_eq_none_iff, List.find?_eq_none]
        exact fun p hp hpj => h (List.any_eq_true.mpr ⟨p, hp, hpj⟩)
      rw [this]
      simp [valueAt]
    · have h3 : ¬ (k = j) := fun e => hj e.symm
      simp [valueAt, hj, h3]
theorem DefOk.put {i : Nat} {kvs : List (Int × Value)} {k n : Int} {t : Tok} (h : DefOk i kvs) (hk : k ≠ 99) : DefOk (i + 1) (stored kvs k (.int n t)) := by
  obtain ⟨h1, h2, h3⟩ := h
  refine ⟨fun j => ?_, ?_, ?_⟩
  · rw [valueAt_stored]
    split
    · exact .inr ⟨_, _, rfl⟩
    · exact h1 j
  · rw [valueAt_stored, if_neg (fun e => hk e.symm)]; exact h2
  · have := stored_length_le kvs k (.int n t); omega
/-- after the words of one turn: the place, wherever its list lies -/
def JoinPost (h₀ : Heap) (L d l dd : Addr) (nd nl : Nat) (ws : List Value) (odd : Obj) (Y : List (Addr × Obj)) (stored : List Str) (m0 : Str → Option Value) (c0 : Int) (s : Shared) (f : Flow) (s' : Shared) : Prop :=
  f = .next ∧ ∃ (P : Addr) (ps : List (Int × Value)) (cat : Option V) (B : List (Addr × Obj)) (c : Int) (tc : Tok) (u : Str → Option Value) (h : Heap) (tk : Nat), s' = { s with heap := h, toks := tk } ∧ Fr h₀ L h (fun z => if z = Str.ofString "plist" then some (.ref P) else if stored.contains z then u z else m0 z) ∧
    News h₀ L h ((d, listOf #[.ref l, .int c tc] nd) :: (l, listOf ws.toArray nl) :: (dd, odd) :: B) ∧ PlaceIs B P ps cat ∧ c0 ≤ c ∧ c ≤ c0 + 3 ∧ (∀ p ∈ B, p.1 ≠ d) ∧ (∀ p ∈ B, p.1 ≠ dd) ∧ ∀ p ∈ Y, p ∈ B
section
variable {prog : Program} {w : World} {A : Around} {E : Value → Shared → Prop} {s : Shared} {env : Env} {h₀ : Heap}
theorem join_here {st : Stmt} {L d l dd : Addr} {nd nl : Nat} {ws : List Value} {odd : Obj} {Y rest : List (Addr × Obj)} {stored : List Str} {m0 u0 : Str → Option Value} {v0 : Option Value} {c0 : Int} {tc0 : Tok} {Q : Flow → Shared → Prop}
    (_F : Fr h₀ L s.heap (fun y => if y = Str.ofString "plist" then v0 else if stored.contains y then u0 y else m0 y))
    (_N : News h₀ L s.heap ((d, listOf #[.ref l, .int c0 tc0] nd) :: (l, listOf ws.toArray nl) :: (dd, odd) :: rest))
    (hst : wpAny (model prog w) A (exec st env) (JoinPost h₀ L d l dd nd nl ws odd Y stored m0 c0 s) E s)
    (k : ∀ (P : Addr) (ps : List (Int × Value)) (cat : Option V) (B : List (Addr × Obj)) (c : Int) (tc : Tok) (u : Str → Option Value) (h : Heap) (tk : Nat), Fr h₀ L h (fun z => if z = Str.ofString "plist" then some (.ref P) else if stored.contains z then u z else m0 z) →
      News h₀ L h ((d, listOf #[.ref l, .int c tc] nd) :: (l, listOf ws.toArray nl) :: (dd, odd) :: B) → PlaceIs B P ps cat → c0 ≤ c → c ≤ c0 + 3 → (∀ p ∈ B, p.1 ≠ d) → (∀ p ∈ B, p.1 ≠ dd) → (∀ p ∈ Y, p ∈ B) → Q .next { s with heap := h, toks := tk }) :
    wpAny (model prog w) A (exec st env) Q E s := by
  refine wpAny_mono hst (fun f s' h => ?_) fun _ _ e => e
  obtain ⟨rfl, P, ps, cat, B, c, tc, u, h, tk, rfl, F, N, hp, h1, h2, h3, h4, h5⟩ := h
  exact k P ps cat B c tc u h tk F N hp h1 h2 h3 h4 h5
theorem Fr.as {L : Addr} {h : Heap} {m m' : Str → Option Value} (F : Fr h₀ L h m) (e : ∀ z, m z = m' z) : Fr h₀ L h m' := (funext e : m = m') ▸ F
theorem join_end {L d l dd P : Addr} {h : Heap} {m m0 : Str → Option Value} {nd nl : Nat} {ws : List Value} {odd : Obj} {news B Y : List (Addr × Obj)} {stored : List Str} {c c0 : Int} {tc : Tok} {ps : List (Int × Value)} {cat : Option V} {tk : Nat}
    (F : Fr h₀ L h m) (N : News h₀ L h news) (hp : PlaceIs B P ps cat) (hn : ∀ p ∈ (d, listOf #[.ref l, .int c tc] nd) :: (l, listOf ws.toArray nl) :: (dd, odd) :: B, p ∈ news) (h1 : c0 ≤ c) (h2 : c ≤ c0 + 3) (h3 : ∀ p ∈ B, p.1 ≠ d) (h4 : ∀ p ∈ B, p.1 ≠ dd) (h5 : ∀ p ∈ Y, p ∈ B)
    (hm1 : m (Str.ofString "plist") = some (.ref P)) (hm : ∀ z, stored.contains z = false → m z = m0 z) :
    JoinPost h₀ L d l dd nd nl ws odd Y stored m0 c0 s .next { s with heap := h, toks := tk } := by
  refine ⟨rfl, P, ps, cat, B, c, tc, m, h, tk, rfl, Fr.as F fun z => ?_, news_sub N hn, hp, h1, h2, h3, h4, h5⟩
  by_cases e : z = Str.ofString "plist"
  · rw [if_pos e, e, hm1]
  · rw [if_neg e]
    by_cases h9 : stored.contains z = true
    · rw [if_pos h9]
    · rw [if_neg h9]; exact hm z (by simpa using h9)
/-- where the main loop stands -/
def LawJ (prog : Program) (w : World) (d l dd : Addr) (nd nl : Nat) (ws : List Value) (Y : List (Addr × Obj)) (stored : List Str) (m0 : Str → Option Value) (c0 : Int) (i : Nat) (m : Str → Option Value) (nx : List (Addr × Obj)) : Prop :=
  (∀ z, stored.contains z = false → m z = m0 z) ∧ ∃ c tc odd kvs, nx = (d, listOf #[.ref l, .int c tc] nd) :: (l, listOf ws.toArray nl) :: (dd, odd) :: Y ∧ c0 ≤ c ∧ c ≤ c0 + 40 * (i : Int) ∧ odd.IsDictOf (intKind prog w) kvs ∧ DefOk i kvs
theorem law_loop {L : Addr} (hL : env.locals = L) {r : Addr} {b₀ c0 : Int} {t₀ u₀ v₀ tc0 : Tok} {x : Str} {body : List Stmt} {Q : Flow → Shared → Prop} {m0 : Str → Option Value} {d l dd : Addr} {nd nl : Nat} {ws : List Value} {odd0 : Obj} {Y : List (Addr × Obj)} (stored : List Str)
    (hh : A.handled = none) (hr : IsRange s.heap r 0 b₀ 1 t₀ u₀ v₀) (hb : 0 ≤ b₀) (hb3 : b₀ ≤ 3) (hx : stored.contains x = true) (F : Fr h₀ L s.heap m0)
    (N : News h₀ L s.heap ((d, listOf #[.ref l, .int c0 tc0] nd) :: (l, listOf ws.toArray nl) :: (dd, odd0) :: Y)) (hop : odd0.IsDictOf (intKind prog w) [])
    (hYd : ∀ p ∈ Y, p.1 ≠ d) (hYdd : ∀ p ∈ Y, p.1 ≠ dd)
    (turn : ∀ (i : Nat) (u : Str → Option Value) h tk own c tc odd kvs Z, i < 3 → c0 ≤ c → c ≤ c0 + 40 * (i : Int) → odd.IsDictOf (intKind prog w) kvs → DefOk i kvs → OwnOff own (d :: l :: dd :: Y.map (·.1)) → (∀ p ∈ Y, p ∈ Z) → (∀ p ∈ own, p ∈ Z) → (∀ p ∈ Z, p.1 ≠ d) → (∀ p ∈ Z, p.1 ≠ dd) →
      Fr h₀ L h (fun z => if stored.contains z then u z else m0 z) → News h₀ L h ((d, listOf #[.ref l, .int c tc] nd) :: (l, listOf ws.toArray nl) :: (dd, odd) :: Z) →
      wpAny (model prog w) A (execs body env) (InvPostG h₀ L (LawJ prog w d l dd nd nl ws Y stored m0 c0 (i + 1)) own { s with heap := h, toks := tk } Q) E { s with heap := h, toks := tk })
    (done : ∀ (u : Str → Option Value) h tk c tc odd kvs, odd.IsDictOf (intKind prog w) kvs → DefOk b₀.toNat kvs → Fr h₀ L h (fun z => if stored.contains z then u z else m0 z) → News h₀ L h ((d, listOf #[.ref l, .int c tc] nd) :: (l, listOf ws.toArray nl) :: (dd, odd) :: Y) → Q .next { s with heap := h, toks := tk }) :
    wpAny (model prog w) A (pyIter (.ref r)) (fun it s₂ => LoopAtV prog w A h₀ env x body Q E it s₂) E s := by
  subst hL
  refine range_inv (n := b₀.toNat) (LawJ prog w d l dd nd nl ws Y stored m0 c0) hh hr (by omega) (by omega) F N ⟨fun _ _ => rfl, c0, tc0, odd0, [], rfl, by omega, by omega, hop, fun n => .inl rfl, rfl, Nat.le_refl _⟩ ?_ ?_
  · rintro i t m₁ nx h tk own hi hoff ⟨hm, c, tc, odd, kvs, rfl, h1, h2, h3, h4⟩ F₁ N₁
    refine turn i (fun y => if y = x then some (.int (i : Int) t) else m₁ y) h tk own c tc odd kvs (Y ++ own) (by omega) h1 h2 h3 h4 hoff (fun p hp => List.mem_append_left _ hp) (fun p hp => List.mem_append_right _ hp) ?_ ?_ (Fr.as F₁ fun z => ?_) (news_sub N₁ fun p hp => by simpa using hp)
    · intro p hp
      rcases List.mem_append.mp hp with hp | hp
      · exact hYd p hp
      · exact hoff p hp d (by simp)
    · intro p hp
      rcases List.mem_append.mp hp with hp | hp
      · exact hYdd p hp
      · exact hoff p hp dd (by simp)
    · by_cases hz : z = x
      · subst hz; simp only [if_true, hx]
      · by_cases h9 : stored.contains z = true
        · simp only [if_neg hz, if_pos h9]
        · simp only [if_neg hz, if_neg h9]; exact hm z (by simpa using h9)
  · rintro m₁ nx h tk ⟨hm, c, tc, odd, kvs, rfl, h1, h2, h3, h4⟩ F₁ N₁
    refine done m₁ h tk c tc odd kvs h3 h4 (Fr.as F₁ fun z => ?_) N₁
    by_cases h9 : stored.contains z = true
    · rw [if_pos h9]
    · rw [if_neg h9]; exact hm z (by simpa using h9)
theorem law_turn_end {d l dd L : Addr} {nd nl : Nat} {ws : List Value} {Y own news' : List (Addr × Obj)} {stored : List Str} {m0 m' : Str → Option Value} {c0 c : Int} {tc : Tok} {odd : Obj} {kvs : List (Int × Value)} {i : Nat} {s₁ : Shared} {h' : Heap} {tk : Nat}
    (F : Fr h₀ L h' m') (N : News h₀ L h' news') (hm : ∀ z, stored.contains z = false → m' z = m0 z) (h1 : c0 ≤ c) (h2 : c ≤ c0 + 40 * ((i : Int) + 1)) (h3 : odd.IsDictOf (intKind prog w) kvs) (h4 : DefOk (i + 1) kvs)
    (ha : OwnOff own (d :: l :: dd :: Y.map (·.1))) (hn : ∀ p ∈ (d, listOf #[.ref l, .int c tc] nd) :: (l, listOf ws.toArray nl) :: (dd, odd) :: Y, p ∈ news') (ho : ∀ p ∈ own, p ∈ news') :
    InvEndG h₀ L (LawJ prog w d l dd nd nl ws Y stored m0 c0 (i + 1)) own s₁ { s₁ with heap := h', toks := tk } :=
  InvEndG.intro F N ⟨hm, c, tc, odd, kvs, rfl, h1, by omega, h3, h4⟩ ha hn ho
end
/-- the member's answer, as the law has it -/
theorem member_syms {number : Int} (h0 : 0 ≤ number) {b : Bool} : ∀ (ds : List V), memberOf number (some ds) b = (syms ds).any (· == number)
  | [] => rfl
  | x :: ds => by
    have ih : (ds.map symNo).any (· == number) = (syms ds).any (· == number) := member_syms h0 (b := b) ds
    show ((x :: ds).map symNo).any (· == number) = (syms (x :: ds)).any (· == number)
    rw [List.map_cons, List.any_cons, ih]
    cases x with
    | sym i => simp [symNo, syms]
    | _ => simp only [symNo, syms]; rw [show ((-1 : Int) == number) = false by simp; omega, Bool.false_or]
/-- the lasting world over a ledger -/
structure World9 (prog : Program) (w : World) (B : List (Addr × Obj)) (rx rdx lx ldx dd pd p8 : Addr) (ps8 : List (Int × Value)) (opd : Obj) : Prop where
  W : World8 prog w B rx rdx lx ldx dd pd p8 ps8
  inB : (pd, opd) ∈ B
  hop : opd.IsDictOf (intKind prog w) [(8, .ref p8)]
  lo : (pd == sysModules) = false
  lod : (dd == sysModules) = false
  v8 : ∀ p ∈ ps8, ValIs B p.2
theorem World9.mono {prog : Program} {w : World} {B B' : List (Addr × Obj)} {rx rdx lx ldx dd pd p8 : Addr} {ps8 : List (Int × Value)} {opd : Obj} (W : World9 prog w B rx rdx lx ldx dd pd p8 ps8 opd) (hs : ∀ q ∈ B, q ∈ B') : World9 prog w B' rx rdx lx ldx dd pd p8 ps8 opd :=
  ⟨W.W.mono hs, hs _ W.inB, W.hop, W.lo, W.lod, fun p hp => (W.v8 p hp).mono hs⟩
theorem law_gather {prog : Program} {w : World} {h₀ h : Heap} {L d l dd rx rdx lx ldx pd p8 : Addr} {o1 o2 odd opd : Obj} {t0 t1 t2 t3 t4 t5 t6 t7 t8 u0 u1 u2 u3 u4 s0 s1 s2 s3 v0 : Tok} {n8 : Nat} {v8 : List Value} {ps8 : List (Int × Value)} {R8 : List (Addr × Obj)}
    (N : News h₀ L h ((d, o1) :: (l, o2) :: (dd, odd) :: (rx, instObj 59 rdx) :: (rdx, dictOf (rulesEs w.params t0 t1 t2 t3 t4 t5 t6 t7 t8 u0 u1 u2 u3 u4 lx dd) 9) :: (lx, instObj 156 ldx) :: (ldx, dictOf (lispEs w.params s0 s1 s2 s3 v0 pd) 4) :: (pd, opd) :: (p8, listOf v8.toArray n8) :: R8))
    (hch : Chain d l dd rx rdx lx ldx pd) (htl : ∀ p ∈ (p8, listOf v8.toArray n8) :: R8, dd < p.1) (hop : opd.IsDictOf (intKind prog w) [(8, .ref p8)]) (hlo : (pd == sysModules) = false) (hlod : (dd == sysModules) = false) (hpl : PlistIs R8 v8 ps8) (hl8 : ps8.length ≤ 3) (hv : ∀ p ∈ ps8, 1 ≤ p.1 ∧ p.1 ≤ 4 ∧ ValIs R8 p.2) :
    ∃ Y, News h₀ L h ((d, o1) :: (l, o2) :: (dd, odd) :: Y) ∧ World9 prog w Y rx rdx lx ldx dd pd p8 ps8 opd ∧ (∀ p ∈ Y, p.1 ≠ d) ∧ (∀ p ∈ Y, p.1 ≠ dd) ∧ @Ne Nat l d ∧ @Ne Nat dd d ∧ @Ne Nat l dd := by
  have htd := tail_d hch htl
  have htdd := tail_dd htl
  obtain ⟨h1, h2, h3, h4, h5, h6, h7⟩ := hch
  refine ⟨_, N, ⟨⟨.head _, ⟨_, _, _, _, _, _, _, _, _, _, _, _, _, _, .tail _ (.head _)⟩, .tail _ (.tail _ (.head _)), ⟨_, _, _, _, _, .tail _ (.tail _ (.tail _ (.head _)))⟩, hlo, ⟨opd, .tail _ (.tail _ (.tail _ (.tail _ (.head _)))), hop⟩, ⟨v8, n8, .tail _ (.tail _ (.tail _ (.tail _ (.tail _ (.head _))))), hpl.mono fun q hq => .tail _ (.tail _ (.tail _ (.tail _ (.tail _ (.tail _ hq)))))⟩, by omega⟩, .tail _ (.tail _ (.tail _ (.tail _ (.head _)))), hop, hlo, hlod, fun p hp => (hv p hp).2.2.mono fun q hq => .tail _ (.tail _ (.tail _ (.tail _ (.tail _ (.tail _ hq)))))⟩, ?_, ?_, by omega, by omega, by omega⟩
  · intro p hp
    simp only [List.mem_cons] at hp
    rcases hp with rfl | rfl | rfl | rfl | rfl | hp
    all_goals first | exact htd p (by simpa using hp) | ((show @Ne Nat _ _); (dsimp only; omega))
  · intro p hp
    simp only [List.mem_cons] at hp
    rcases hp with rfl | rfl | rfl | rfl | rfl | hp
    all_goals first | exact htdd p (by simpa using hp) | ((show @Ne Nat _ _); (dsimp only; omega))
/-- after a turn's draw of pairs -/
theorem turn_pairs {h₀ h : Heap} {L d l dd a : Addr} {o1 o2 odd : Obj} {nf : Nat} {vf : List Value} {new Z : List (Addr × Obj)} {ps : List (Int × Value)}
    (N : News h₀ L h ((d, o1) :: (l, o2) :: (a, listOf vf.toArray nf) :: (new ++ (dd, odd) :: Z))) (hpl : PlistIs new vf ps) (hv : ∀ p ∈ ps, 1 ≤ p.1 ∧ p.1 ≤ 4 ∧ ValIs new p.2) (hda : d < a) (hra : ∀ q ∈ (dd, odd) :: Z, q.1 < a) (hnew : ∀ p ∈ new, a < p.1) (hZd : ∀ p ∈ Z, p.1 ≠ d) (hZdd : ∀ p ∈ Z, p.1 ≠ dd) :
    ∃ B, News h₀ L h ((d, o1) :: (l, o2) :: (dd, odd) :: (a, listOf vf.toArray nf) :: B) ∧ PlistIs B vf ps ∧ (∀ p ∈ ps, 1 ≤ p.1 ∧ p.1 ≤ 4 ∧ ValIs B p.2) ∧ (∀ p ∈ Z, p ∈ B) ∧ (∀ p ∈ B, p.1 ≠ d) ∧ (∀ p ∈ B, p.1 ≠ dd) ∧ @Ne Nat a d ∧ @Ne Nat a dd := by
  have hdda := hra _ (.head _)
  refine ⟨new ++ Z, news_sub N fun p hp => ?_, hpl.mono fun q hq => List.mem_append_left _ hq, fun p hp => ⟨(hv p hp).1, (hv p hp).2.1, (hv p hp).2.2.mono fun q hq => List.mem_append_left _ hq⟩, fun p hp => List.mem_append_right _ hp, ?_, ?_, Nat.ne_of_gt hda, Nat.ne_of_gt hdda⟩
  · simp only [List.mem_cons, List.mem_append] at hp ⊢
    rcases hp with h | h | h | h | h | h <;> simp [h]
  · intro p hp
    rcases List.mem_append.mp hp with hp | hp
    · exact Nat.ne_of_gt (Nat.lt_trans hda (hnew p hp))
    · exact hZd p hp
  · intro p hp
    rcases List.mem_append.mp hp with hp | hp
    · exact Nat.ne_of_gt (Nat.lt_trans hdda (hnew p hp))
    · exact hZdd p hp
section
variable {prog : Program} {w : World} {mean : ExcName → Option Value} {mg mb : Str → Option Value} {news B : List (Addr × Obj)} {rx rdx lx ldx dd pd p8 P : Addr} {ps ps8 : List (Int × Value)} {opd : Obj} {cat : Option V}
theorem lawValue_use {hh : Addr} {ohh : Obj} {number : Int} {tm tc : Tok} (W : World9 prog w B rx rdx lx ldx dd pd p8 ps8 opd) (hpl : PlaceIs B P ps cat) (hs : ∀ q ∈ B, q ∈ news) (hhh : (hh, ohh) ∈ news) (hlo : (hh == sysModules) = false) (hop : ohh.IsDictOf (intKind prog w) [(8, .ref p8)]) :
    Spec prog w mean mg mb 3 186 [.ref P, .int number tm, .int 20 tc, .ref hh] news (fun r news' => news = news' ∧ r = valueOf number ps ps8 cat) := by
  have hpl' := hpl.mono hs
  have W' := W.mono hs
  obtain ⟨⟨vs, n, hm, hp⟩, h1, h2, h3, h4⟩ := hpl'
  obtain ⟨v8, n8, h8, hp8⟩ := W'.W.p8
  exact lawValue_spec prog w mean mg mb hhh hlo hop h8 hp8 W'.W.len hm hp (by omega) h3 h2
theorem valueIn_use {D : Addr} {number : Int} {tm : Tok} (W : World9 prog w B rx rdx lx ldx dd pd p8 ps8 opd) (hs : ∀ q ∈ B, q ∈ news) (hpl : PlaceIs news D ps cat) :
    Spec prog w mean mg mb 3 70 [.ref rx, .ref D, .int number tm] news (fun r news' => news = news' ∧ r = valueOf number ps ps8 cat) := by
  obtain ⟨⟨vs, n, hm, hp⟩, h1, h2, h3, h4⟩ := hpl
  exact valueIn_spec prog w mean mg mb (W.W.mono hs) hm hp (by omega) h2
theorem isLike_use {number : Int} (W : World9 prog w B rx rdx lx ldx dd pd p8 ps8 opd) (hpl : PlaceIs B P ps cat) (hs : ∀ q ∈ B, q ∈ news) :
    Spec prog w mean mg mb 1 193 [valueOf number ps ps8 cat, valueOf number ps ps8 cat] news (fun r news' => news = news' ∧ r = .bool true) :=
  isLike_spec prog w mean mg mb (valueOf_is (fun p hp => (hpl.vals p hp).2.2.mono hs) (fun p hp => (W.v8 p hp).mono hs))
theorem copy_place {A : Around} {E : Value → Shared → Prop} {s : Shared} {h₀ : Heap} {L : Addr} {m : Str → Option Value} {Q : Value → Shared → Prop} (F : Fr h₀ L s.heap m) (N : News h₀ L s.heap news) (hpl : PlaceIs B P ps cat) (hs : ∀ q ∈ B, q ∈ news)
    (h : ∀ D o h', Fr h₀ L h' m → News h₀ L h' ((D, o) :: news) → PlaceIs ((D, o) :: news) D ps cat → (∀ p ∈ news, p.1 < D) → Q (.ref D) { s with heap := h' }) : wpAny (model prog w) A (call (.type "list") [.ref P]) Q E s := by
  obtain ⟨⟨vs, n, hm, hp⟩, h1, h2, h3, h4⟩ := hpl
  have hl := hp.length
  refine copy_ls F N (hs _ hm) (by omega) fun D c h' F' N' l1 => h D _ h' F' N' ⟨⟨vs, c, .head _, hp.mono fun q hq => .tail _ (hs q hq)⟩, h1, h2.mono fun q hq => .tail _ (hs q hq), h3, fun p hp => ⟨(h4 p hp).1, (h4 p hp).2.1, (h4 p hp).2.2.mono fun q hq => .tail _ (hs q hq)⟩⟩ l1
end
/-- the numbers that the law asks after -/
theorem six_ints {a0 a1 a2 a3 a4 a5 : Int} {t0 t1 t2 t3 t4 t5 : Tok} {i : Nat} {v : Value} (h : [Value.int a0 t0, .int a1 t1, .int a2 t2, .int a3 t3, .int a4 t4, .int a5 t5][i]? = some v) : ∃ k t, v = .int k t := by
  have hm := List.mem_of_getElem? h
  simp only [List.mem_cons, List.not_mem_nil, or_false] at hm
  rcases hm with rfl | rfl | rfl | rfl | rfl | rfl <;> exact ⟨_, _, rfl⟩
/-- after `_law_listed` -/
theorem turn_listed {d l dd : Addr} {nd nl : Nat} {c : Int} {ws : List Value} {odd : Obj} {B news' : List (Addr × Obj)} {r : Value} {h₀ h : Heap} {L : Addr} (hout : ListedOut d l nd nl c ws ((dd, odd) :: B) r news') (N : News h₀ L h news') (hBd : ∀ p ∈ B, p.1 ≠ d) (hBdd : ∀ p ∈ B, p.1 ≠ dd) :
    ∃ (T nu : Addr) (v : Value) (flag : Bool) (vs : List Value) (ns : List Int) (o : Option (List V)) (b : Bool) (c1 : Int) (tc1 : Tok) (B' : List (Addr × Obj)) (k1 k2 : Nat), r = .ref T ∧ News h₀ L h ((d, listOf #[.ref l, .int c1 tc1] nd) :: (l, listOf ws.toArray nl) :: (dd, odd) :: B') ∧ c ≤ c1 ∧ c1 ≤ c + 12 ∧
      (T, tupO [v, .ref nu, .bool flag] k1) ∈ B' ∧ (nu, listOf vs.toArray k2) ∈ B' ∧ IntsAre vs ns ∧ ListIs B' v o b ∧ ((flag = true ∧ ∃ ds, o = some ds ∧ ns = syms ds) ∨ (flag = false ∧ o = none)) ∧ (∀ p ∈ B, p ∈ B') ∧ (∀ p ∈ B', p.1 ≠ d) ∧ (∀ p ∈ B', p.1 ≠ dd) := by
  obtain ⟨T, nu, v, flag, vs, ns, o, b, c1, tc1, new, k1, k2, rfl, rfl, h1, h2, h3, h4, h5, h6, h7, h8⟩ := hout
  refine ⟨T, nu, v, flag, vs, ns, o, b, c1, tc1, new ++ B, k1, k2, rfl, news_sub N fun p hp => ?_, h1, h2, List.mem_append_left _ h4, List.mem_append_left _ h5, h6, h7.mono fun q hq => List.mem_append_left _ hq, h8, fun p hp => List.mem_append_right _ hp, ?_, ?_⟩
  · simp only [List.mem_cons, List.mem_append] at hp ⊢
    rcases hp with h | h | h | h | h <;> simp [h]
  · intro p hp
    rcases List.mem_append.mp hp with hp | hp
    · exact (h3 p hp).1
    · exact hBd p hp
  · intro p hp
    rcases List.mem_append.mp hp with hp | hp
    · exact (h3 p hp).2.2 _ (.head _)
    · exact hBdd p hp
theorem member_flag {flag : Bool} {ns : List Int} {o : Option (List V)} {b : Bool} {number : Int} (hf : (flag = true ∧ ∃ ds, o = some ds ∧ ns = syms ds) ∨ (flag = false ∧ o = none)) (ht : flag = true) (h0 : 0 ≤ number) : memberOf number o b = ns.any (· == number) := by
  rcases hf with ⟨_, ds, rfl, rfl⟩ | ⟨e, _⟩
  · exact member_syms h0 ds
  · rw [ht] at e; cases e
theorem valueAt_self {kvs : List (Int × Value)} {k : Int} {v : Value} : valueAt (stored kvs k v) k = some v := by rw [valueAt_stored, if_pos rfl]
section
variable {prog : Program} {w : World} {A : Around} {E : Value → Shared → Prop} {s : Shared} {env : Env} {h₀ : Heap} {x : Str} {body : List Stmt} {Q : Flow → Shared → Prop}
theorem range_turns {L : Addr} (hL : env.locals = L) {r : Addr} {b₀ : Int} {t₀ u₀ v₀ : Tok} {m₀ : Str → Option Value} {news : List (Addr × Obj)} (n : Nat) (stored : List Str) (hx : stored.contains x = true)
    (hh : A.handled = none) (hr : IsRange s.heap r 0 b₀ 1 t₀ u₀ v₀) (hb : b₀ = (n : Int)) (hz : n ≤ 16384) (F : Fr h₀ L s.heap m₀) (N : News h₀ L s.heap news)
    (turn : ∀ (i : Nat) t (u : Str → Option Value) h tk own, i < n → OwnOff own (news.map (·.1)) → Fr h₀ L h (fun y => if y = x then some (.int (i : Int) t) else if stored.contains y then u y else m₀ y) → News h₀ L h (news ++ own) →
      wpAny (model prog w) A (execs body env) (InvPostG h₀ L (fun m' nx => nx = news ∧ ∀ z, stored.contains z = false → m' z = m₀ z) own { s with heap := h, toks := tk } Q) E { s with heap := h, toks := tk })
    (done : ∀ (u : Str → Option Value) h tk, Fr h₀ L h (fun z => if stored.contains z then u z else m₀ z) → News h₀ L h news → Q .next { s with heap := h, toks := tk }) :
    wpAny (model prog w) A (pyIter (.ref r)) (fun it s₂ => LoopAtV prog w A h₀ env x body Q E it s₂) E s := by
  subst hL
  refine range_inv (n := n) (fun _ m' nx => nx = news ∧ ∀ z, stored.contains z = false → m' z = m₀ z) hh hr hb hz F N ⟨rfl, fun _ _ => rfl⟩ ?_ ?_
  · rintro i t m₁ nx h tk own hi hoff ⟨rfl, hm⟩ F₁ N₁
    refine turn i t m₁ h tk own hi hoff (Fr.as F₁ fun z => ?_) N₁
    by_cases hz : z = x
    · simp only [hz, if_true]
    · by_cases h9 : stored.contains z = true
      · simp only [if_neg hz, if_pos h9]
      · simp only [if_neg hz, if_neg h9]; exact hm z (by simpa using h9)
  · rintro m₁ nx h tk ⟨rfl, hm⟩ F₁ N₁
    refine done m₁ h tk (Fr.as F₁ fun z => ?_) N₁
    by_cases h9 : stored.contains z = true
    · rw [if_pos h9]
    · rw [if_neg h9]; exact hm z (by simpa using h9)
theorem range_turn_end {L : Addr} {stored : List Str} {m' m₀ : Str → Option Value} {own news news' : List (Addr × Obj)} {s₁ : Shared} {h' : Heap} {tk : Nat} (F : Fr h₀ L h' m') (N : News h₀ L h' news') (hoff : OwnOff own (news.map (·.1))) (hn : ∀ p ∈ news, p ∈ news') (ho : ∀ p ∈ own, p ∈ news') (hm : ∀ z, stored.contains z = false → m' z = m₀ z) :
    InvEndG h₀ L (fun m' nx => nx = news ∧ ∀ z, stored.contains z = false → m' z = m₀ z) own s₁ { s₁ with heap := h', toks := tk } := InvEndG.intro F N ⟨rfl, hm⟩ hoff hn ho
end
end Mine
namespace Mine
section
variable {s : Shared} {h₀ : Heap}
theorem join_plain {L d l dd a : Addr} {h : Heap} {m0 u0 : Str → Option Value} {nd nl nf : Nat} {ws vf : List Value} {odd : Obj} {B Y : List (Addr × Obj)} {stored : List Str} {c c0 : Int} {tc : Tok} {ps : List (Int × Value)} {tk : Nat}
    (F : Fr h₀ L h (fun y => if y = Str.ofString "plist" then some (.ref a) else if stored.contains y then u0 y else m0 y))
    (N : News h₀ L h ((d, listOf #[.ref l, .int c tc] nd) :: (l, listOf ws.toArray nl) :: (dd, odd) :: (a, listOf vf.toArray nf) :: B))
    (hpl : PlistIs B vf ps) (hl : ps.length ≤ 3) (hv : ∀ p ∈ ps, 1 ≤ p.1 ∧ p.1 ≤ 4 ∧ ValIs B p.2) (hZ : ∀ p ∈ Y, p ∈ B) (hBd : ∀ p ∈ B, p.1 ≠ d) (hBdd : ∀ p ∈ B, p.1 ≠ dd) (had : @Ne Nat a d) (hadd : @Ne Nat a dd) (h1 : c0 ≤ c) (h2 : c ≤ c0 + 3) :
    JoinPost h₀ L d l dd nd nl ws odd Y stored m0 c0 s .next { s with heap := h, toks := tk } := by
  refine ⟨rfl, a, ps, none, (a, listOf vf.toArray nf) :: B, c, tc, u0, h, tk, rfl, F, N, ?_, h1, h2, ?_, ?_, fun p hp => .tail _ (hZ p hp)⟩
  · exact place_plain (.head _) (hpl.mono fun q hq => .tail _ hq) hl fun p hp => ⟨(hv p hp).1, (hv p hp).2.1, (hv p hp).2.2.mono fun q hq => .tail _ hq⟩
  · intro p hp
    rcases List.mem_cons.mp hp with rfl | hp
    · exact had
    · exact hBd p hp
  · intro p hp
    rcases List.mem_cons.mp hp with rfl | hp
    · exact hadd
    · exact hBdd p hp
theorem join_word {L d l dd D T S8 S9 L8 : Addr} {h : Heap} {m m0 : Str → Option Value} {nd nl n k k8 k9 kl kt : Nat} {ws vf : List Value} {odd : Obj} {news B Y : List (Addr × Obj)} {stored : List Str} {c c0 : Int} {tc t8 t9 tl u8 u9 ul ui tt : Tok} {x : Value} {ps : List (Int × Value)} {tk : Nat}
    (F : Fr h₀ L h m) (N : News h₀ L h news) (hm1 : m (Str.ofString "plist") = some (.ref D))
    (hD : (D, listOf (vf.take k ++ [Value.ref T] ++ vf.drop k).toArray n) ∈ news) (ht : (T, tupO [.int 20 tt, x] kt) ∈ news) (hx : x ∈ [.ref S8, .ref S9, .int 8 ui, .ref L8])
    (h8 : (S8, tupO [.str (Str.ofString "symbol") t8, .int 8 u8] k8) ∈ news) (h9 : (S9, tupO [.str (Str.ofString "symbol") t9, .int 9 u9] k9) ∈ news) (hL : (L8, tupO [.str (Str.ofString "list") tl, .int 8 ul] kl) ∈ news)
    (hs : ∀ p ∈ (d, listOf #[.ref l, .int c tc] nd) :: (l, listOf ws.toArray nl) :: (dd, odd) :: B, p ∈ news)
    (hpl : PlistIs B vf ps) (hl : ps.length ≤ 3) (hv : ∀ p ∈ ps, 1 ≤ p.1 ∧ p.1 ≤ 4 ∧ ValIs B p.2) (hZ : ∀ p ∈ Y, p ∈ B) (hBd : ∀ p ∈ B, p.1 ≠ d) (hBdd : ∀ p ∈ B, p.1 ≠ dd)
    (hDd : @Ne Nat D d ∧ @Ne Nat D dd) (hTd : @Ne Nat T d ∧ @Ne Nat T dd) (h8d : @Ne Nat S8 d ∧ @Ne Nat S8 dd) (h9d : @Ne Nat S9 d ∧ @Ne Nat S9 dd) (hLd : @Ne Nat L8 d ∧ @Ne Nat L8 dd) (h1 : c0 ≤ c) (h2 : c ≤ c0 + 3)
    (hm : ∀ z, stored.contains z = false → m z = m0 z) :
    JoinPost h₀ L d l dd nd nl ws odd Y stored m0 c0 s .next { s with heap := h, toks := tk } := by
  have hsub : ∀ q ∈ B, q ∈ (D, listOf (vf.take k ++ [Value.ref T] ++ vf.drop k).toArray n) :: (T, tupO [.int 20 tt, x] kt) :: (S8, tupO [.str (Str.ofString "symbol") t8, .int 8 u8] k8) :: (S9, tupO [.str (Str.ofString "symbol") t9, .int 9 u9] k9) :: (L8, tupO [.str (Str.ofString "list") tl, .int 8 ul] kl) :: B :=
    fun q hq => .tail _ (.tail _ (.tail _ (.tail _ (.tail _ hq))))
  obtain ⟨ps', cat, hp⟩ := place_word (news := (D, listOf (vf.take k ++ [Value.ref T] ++ vf.drop k).toArray n) :: (T, tupO [.int 20 tt, x] kt) :: (S8, tupO [.str (Str.ofString "symbol") t8, .int 8 u8] k8) :: (S9, tupO [.str (Str.ofString "symbol") t9, .int 9 u9] k9) :: (L8, tupO [.str (Str.ofString "list") tl, .int 8 ul] kl) :: B)
    (.head _) (.tail _ (.head _)) (.tail _ (.tail _ (.head _))) (.tail _ (.tail _ (.tail _ (.head _)))) (.tail _ (.tail _ (.tail _ (.tail _ (.head _))))) hx (hpl.mono hsub) hl fun p hp => ⟨(hv p hp).1, (hv p hp).2.1, (hv p hp).2.2.mono hsub⟩
  refine join_end (tc := tc) (B := (D, listOf (vf.take k ++ [Value.ref T] ++ vf.drop k).toArray n) :: (T, tupO [.int 20 tt, x] kt) :: (S8, tupO [.str (Str.ofString "symbol") t8, .int 8 u8] k8) :: (S9, tupO [.str (Str.ofString "symbol") t9, .int 9 u9] k9) :: (L8, tupO [.str (Str.ofString "list") tl, .int 8 ul] kl) :: B) F N hp ?_ h1 h2 ?_ ?_ (fun p hp => hsub p (hZ p hp)) hm1 hm
  · intro p hp
    simp only [List.mem_cons] at hp
    rcases hp with rfl | rfl | rfl | rfl | rfl | rfl | rfl | rfl | hp
    · exact hs _ (.head _)
    · exact hs _ (.tail _ (.head _))
    · exact hs _ (.tail _ (.tail _ (.head _)))
    · exact hD
    · exact ht
    · exact h8
    · exact h9
    · exact hL
    · exact hs _ (.tail _ (.tail _ (.tail _ hp)))
  · intro p hp
    simp only [List.mem_cons] at hp
    rcases hp with rfl | rfl | rfl | rfl | rfl | hp
    · exact hDd.1
    · exact hTd.1
    · exact h8d.1
    · exact h9d.1
    · exact hLd.1
    · exact hBd p hp
  · intro p hp
    simp only [List.mem_cons] at hp
    rcases hp with rfl | rfl | rfl | rfl | rfl | hp
    · exact hDd.2
    · exact hTd.2
    · exact h8d.2
    · exact h9d.2
    · exact hLd.2
    · exact hBdd p hp
end
section
variable {prog : Program} {w : World} {A : Around} {E : Value → Shared → Prop} {s : Shared} {h₀ h : Heap} {L : Addr} {Q : Value → Shared → Prop}
theorem ne_strS {x : Str} {t u : Tok} (h : Q (.bool false) s) : wpAny (model prog w) A (compareOp .NotEq (.str x t) (.str x u)) Q E s :=
  PyProof.Rows.ne_str (by simpa using h)
theorem ne_boolS {c : Bool} (h : Q (.bool false) s) : wpAny (model prog w) A (compareOp .NotEq (.bool c) (.bool c)) Q E s :=
  PyProof.Rows.ne_bool (by simpa using h)
theorem news_tl {p : Addr × Obj} {a : List (Addr × Obj)} (N : News h₀ L h (p :: a)) : News h₀ L h a := fun q hq => N q (.tail _ hq)
theorem upd3 {d l dd : Addr} {o1 o2 o3 : Obj} {B : List (Addr × Obj)} (h1 : @Ne Nat dd d) (h2 : @Ne Nat l dd) (hB : ∀ p ∈ B, p.1 ≠ dd) : UpdF dd o3 ((d, o1) :: (l, o2) :: (dd, o3) :: B) (fun o' => (d, o1) :: (l, o2) :: (dd, o') :: B) :=
  .tail (fun e => h1 e.symm) (.tail h2 (.head hB))
end
theorem ne_boolE {prog : Program} {w : World} {A : Around} {E : Value → Shared → Prop} {s : Shared} {Q : Value → Shared → Prop} {c d : Bool} (e : c = d) (h : Q (.bool false) s) : wpAny (model prog w) A (compareOp .NotEq (.bool c) (.bool d)) Q E s := by
  subst e; exact ne_boolS h
theorem flag_cases {B : List (Addr × Obj)} {v : Value} {flag b : Bool} {ns : List Int} {o : Option (List V)} (hl : ListIs B v o b) (hf : (flag = true ∧ ∃ ds, o = some ds ∧ ns = syms ds) ∨ (flag = false ∧ o = none)) :
    (flag = true ∧ ∀ k : Int, 0 ≤ k → memberOf k o b = ns.any (· == k)) ∨ (flag = false ∧ v = .none ∧ o = none ∧ b = false) ∨ (flag = false ∧ v = .bool true ∧ o = none ∧ b = true) := by
  rcases hf with ⟨rfl, ds, rfl, rfl⟩ | ⟨rfl, rfl⟩
  · exact .inl ⟨rfl, fun k hk => member_syms hk ds⟩
  · cases hl with
    | nil => exact .inr (.inl ⟨rfl, rfl, rfl, rfl⟩)
    | tru => exact .inr (.inr ⟨rfl, rfl, rfl, rfl⟩)
theorem DefOk.int {i : Nat} {kvs : List (Int × Value)} (h : DefOk i kvs) (n : Int) : IntOr (valueAt kvs n) := h.1 n
theorem DefOk.none99 {i : Nat} {kvs : List (Int × Value)} (h : DefOk i kvs) : valueAt kvs 99 = none := h.2.1
theorem DefOk.len {i : Nat} {kvs : List (Int × Value)} (h : DefOk i kvs) : kvs.length ≤ i := h.2.2
section
variable {h₀ : Heap} {L : Addr} {m' m₀ : Str → Option Value} {s₁ : Shared} {h' : Heap} {tk : Nat} {stored : List Str}
theorem six_end {x t t2 c d l dd : Addr × Obj} {B own : List (Addr × Obj)} (F : Fr h₀ L h' m') (N : News h₀ L h' (x :: t :: t2 :: c :: d :: l :: dd :: (B ++ own))) (hm : ∀ z, stored.contains z = false → m' z = m₀ z) :
    InvEndN h₀ L (fun m' nx => nx = t :: t2 :: c :: d :: l :: dd :: B ∧ (∀ z, stored.contains z = false → m' z = m₀ z) ∧ True) own ((t :: t2 :: c :: d :: l :: dd :: B).map (·.1)) s₁ { s₁ with heap := h', toks := tk } :=
  list_end (P := True) F N (fun q hq => List.mem_cons_of_mem _ (List.mem_append_left (as := t :: t2 :: c :: d :: l :: dd :: B) own hq)) (fun q hq => List.mem_cons_of_mem _ (List.mem_append_right (t :: t2 :: c :: d :: l :: dd :: B) hq)) hm trivial
theorem five_end {d l dd : Addr × Obj} {B own : List (Addr × Obj)} (F : Fr h₀ L h' m') (N : News h₀ L h' (d :: l :: dd :: (B ++ own))) (hoff : OwnOff own ((d :: l :: dd :: B).map (·.1))) (hm : ∀ z, stored.contains z = false → m' z = m₀ z) :
    InvEndG h₀ L (fun m' nx => nx = d :: l :: dd :: B ∧ ∀ z, stored.contains z = false → m' z = m₀ z) own s₁ { s₁ with heap := h', toks := tk } :=
  range_turn_end F N hoff (fun q hq => List.mem_append_left (as := d :: l :: dd :: B) own hq) (fun q hq => List.mem_append_right (d :: l :: dd :: B) hq) hm
theorem turn_end {prog : Program} {w : World} {d l dd : Addr} {nd nl : Nat} {ws : List Value} {Y own B : List (Addr × Obj)} {c0 c : Int} {tc : Tok} {odd : Obj} {kvs : List (Int × Value)} {i : Nat}
    (F : Fr h₀ L h' m') (N : News h₀ L h' ((d, listOf #[.ref l, .int c tc] nd) :: (l, listOf ws.toArray nl) :: (dd, odd) :: B)) (hYB : ∀ p ∈ Y, p ∈ B) (hoB : ∀ p ∈ own, p ∈ B) (ha : OwnOff own (d :: l :: dd :: Y.map (·.1)))
    (h3 : odd.IsDictOf (intKind prog w) kvs) (h4 : DefOk (i + 1) kvs) (h1 : c0 ≤ c) (h2 : c ≤ c0 + 40 * ((i : Int) + 1)) (hm : ∀ z, stored.contains z = false → m' z = m₀ z) :
    InvEndG h₀ L (LawJ prog w d l dd nd nl ws Y stored m₀ c0 (i + 1)) own s₁ { s₁ with heap := h', toks := tk } := by
  refine law_turn_end (tc := tc) F N hm h1 h2 h3 h4 ha ?_ ?_
  · intro q hq
    simp only [List.mem_cons] at hq ⊢
    rcases hq with h | h | h | h
    · exact .inl h
    · exact .inr (.inl h)
    · exact .inr (.inr (.inl h))
    · exact .inr (.inr (.inr (hYB q h)))
  · exact fun q hq => .tail _ (.tail _ (.tail _ (hoB q hq)))
end
end Mine
namespace Mine
section
variable {prog : Program} {w : World} {mean : ExcName → Option Value} {mg mb : Str → Option Value} {dp un : Nat} {gd : Option (List Code)} {cn : Str} {cs : Scope} {a : Addr} {ccd : Value} {cl : List (Str × Addr)} {outer : List Env} {A₀ : Around} {base h₀ : Heap} {L : Addr} {m : Str → Option Value} {s : Shared}
    {Q E : Value → Shared → Prop}
theorem Spec.use_eq {lv : Nat} {f : Addr} {args : List Value} {news : List (Addr × Obj)} {v v' : Value} (S : Spec prog w mean mg mb lv f args news (fun r news' => news = news' ∧ r = v)) (e : v = v')
    (B : Below A₀ base outer h₀) (F : Fr h₀ L s.heap m) (X : (Mine.hd.heap_39 w.params).In h₀) (N : News h₀ L s.heap news) (T : Top Mine.hd.view_39 (looseW Mine.hd.view_39 []) mean mg mb h₀) (hk : cs.kind = .function) (hd : dp + 10 * lv < recursionLimit) (hu : un + 100 * lv < cLine)
    (ret : ∀ h' tk', Fr h₀ L h' m → News h₀ L h' news → Q v' { s with heap := h', toks := tk' }) :
    wpAny (model prog w) (ktrTop dp un gd cn cs L a ccd cl outer) (call (.ref f) args) Q E s := by
  subst e
  refine Spec.use S B F X N T hk hd hu fun r news' h' tk' F' N' hp => ?_
  obtain ⟨rfl, rfl⟩ := hp
  exact ret h' tk' F' N'
/-- a turn's draw of pairs -/
theorem pairs_use {d l dd : Addr} {nd nl : Nat} {c : Int} {tc tm : Tok} {ws : List Value} {ks : List Int} {odd : Obj} {Z : List (Addr × Obj)}
    (hdk : DeckIs ws ks) (hld : @Ne Nat l d) (hr : @Ne Nat dd d) (hc : 0 ≤ c) (hc2 : c < 90000) (hZd : ∀ p ∈ Z, p.1 ≠ d) (hZdd : ∀ p ∈ Z, p.1 ≠ dd)
    (B : Below A₀ base outer h₀) (F : Fr h₀ L s.heap m) (X : (Mine.hd.heap_39 w.params).In h₀) (N : News h₀ L s.heap ((d, listOf #[.ref l, .int c tc] nd) :: (l, listOf ws.toArray nl) :: (dd, odd) :: Z)) (T : Top Mine.hd.view_39 (looseW Mine.hd.view_39 []) mean mg mb h₀) (hkk : cs.kind = .function) (hd : dp + 10 * 2 < recursionLimit) (hu : un + 100 * 2 < cLine)
    (ret : ∀ aP vfP nfP psP cP tcP B1 h' tk', psP.length ≤ 3 → c ≤ cP → cP ≤ c + 7 → Fr h₀ L h' m → News h₀ L h' ((d, listOf #[.ref l, .int cP tcP] nd) :: (l, listOf ws.toArray nl) :: (dd, odd) :: (aP, listOf vfP.toArray nfP) :: B1) → PlistIs B1 vfP psP → (∀ p ∈ psP, 1 ≤ p.1 ∧ p.1 ≤ 4 ∧ ValIs B1 p.2) → (∀ p ∈ Z, p ∈ B1) → (∀ p ∈ B1, p.1 ≠ d) → (∀ p ∈ B1, p.1 ≠ dd) → @Ne Nat aP d → @Ne Nat aP dd →
      vfP.length = psP.length → Q (.ref aP) { s with heap := h', toks := tk' }) :
    wpAny (model prog w) (ktrTop dp un gd cn cs L a ccd cl outer) (call (.ref 179) [.ref d, .int 3 tm]) Q E s := by
  refine Spec.use (pairs_spec prog w mean mg mb hdk hld (List.forall_mem_cons.mpr ⟨hr, hZd⟩) hc hc2) B F X N T hkk hd hu fun r news' h' tk' F' N' hp => ?_
  obtain ⟨aP, vfP, nfP, psP, RP, cP, tcP, rfl, rfl, hplP, hpsP, hpvP, hcP1, hcP2, haP1, haP2, haP3, haP4⟩ := hp
  obtain ⟨B1, NB1, hplB, hpvB, hZB1, hB1d, hB1dd, hn4, hn5⟩ := turn_pairs N' hplP hpvP haP1 haP3 haP4 hZd hZdd
  exact ret aP vfP nfP psP cP tcP B1 h' tk' hpsP hcP1 hcP2 F' NB1 hplB hpvB hZB1 hB1d hB1dd hn4 hn5 hplB.length
theorem listed_use {d l dd : Addr} {nd nl : Nat} {c : Int} {tc : Tok} {ws : List Value} {ks : List Int} {odd : Obj} {B0 : List (Addr × Obj)}
    (hdk : DeckIs ws ks) (hld : @Ne Nat l d) (hr : @Ne Nat dd d) (hc : 0 ≤ c) (hc2 : c < 90000) (hBd : ∀ p ∈ B0, p.1 ≠ d) (hBdd : ∀ p ∈ B0, p.1 ≠ dd)
    (B : Below A₀ base outer h₀) (F : Fr h₀ L s.heap m) (X : (Mine.hd.heap_39 w.params).In h₀) (N : News h₀ L s.heap ((d, listOf #[.ref l, .int c tc] nd) :: (l, listOf ws.toArray nl) :: (dd, odd) :: B0)) (T : Top Mine.hd.view_39 (looseW Mine.hd.view_39 []) mean mg mb h₀) (hkk : cs.kind = .function) (hd : dp + 10 * 2 < recursionLimit) (hu : un + 100 * 2 < cLine)
    (ret : ∀ (T nu : Addr) (v : Value) (flag : Bool) (vs : List Value) (ns : List Int) (o : Option (List V)) (b : Bool) (c1 : Int) (tc1 : Tok) (B' : List (Addr × Obj)) (k1 k2 : Nat) h' tk', Fr h₀ L h' m → News h₀ L h' ((d, listOf #[.ref l, .int c1 tc1] nd) :: (l, listOf ws.toArray nl) :: (dd, odd) :: B') → c ≤ c1 → c1 ≤ c + 12 →
      (T, tupO [v, .ref nu, .bool flag] k1) ∈ B' → (nu, listOf vs.toArray k2) ∈ B' → IntsAre vs ns → ListIs B' v o b → ((flag = true ∧ ∀ k : Int, 0 ≤ k → memberOf k o b = ns.any (· == k)) ∨ (flag = false ∧ v = .none ∧ o = none ∧ b = false) ∨ (flag = false ∧ v = .bool true ∧ o = none ∧ b = true)) → (∀ p ∈ B0, p ∈ B') → (∀ p ∈ B', p.1 ≠ d) → (∀ p ∈ B', p.1 ≠ dd) →
      Q (.ref T) { s with heap := h', toks := tk' }) :
    wpAny (model prog w) (ktrTop dp un gd cn cs L a ccd cl outer) (call (.ref 198) [.ref d]) Q E s := by
  refine Spec.use (listed_spec prog w mean mg mb hdk hld (List.forall_mem_cons.mpr ⟨hr, hBd⟩) hc hc2) B F X N T hkk hd hu fun r news' h' tk' F' N' hp => ?_
  obtain ⟨T8, nu8, v8, fl8, vs8, ns8, o8, b8, c8, tc8, B8, k81, k82, rfl, NB8, hc81, hc82, hT8, hnu8, hi8, hl8, hf8, hBB8, hB8d, hB8dd⟩ := turn_listed hp N' hBd hBdd
  exact ret T8 nu8 v8 fl8 vs8 ns8 o8 b8 c8 tc8 B8 k81 k82 h' tk' F' NB8 hc81 hc82 hT8 hnu8 hi8 hl8 (flag_cases hl8 hf8) hBB8 hB8d hB8dd
/-- the first draw of pairs -/
theorem pairs8_use {d l dd rx rdx lx ldx pd : Addr} {nd nl : Nat} {c : Int} {tc tm : Tok} {ws : List Value} {ks : List Int} {o3 o4 o5 o6 o7 o8 : Obj}
    (hdk : DeckIs ws ks) (hch : Chain d l dd rx rdx lx ldx pd) (hc : 0 ≤ c) (hc2 : c < 90000)
    (B : Below A₀ base outer h₀) (F : Fr h₀ L s.heap m) (X : (Mine.hd.heap_39 w.params).In h₀) (N : News h₀ L s.heap [(d, listOf #[.ref l, .int c tc] nd), (l, listOf ws.toArray nl), (dd, o3), (rx, o4), (rdx, o5), (lx, o6), (ldx, o7), (pd, o8)]) (T : Top Mine.hd.view_39 (looseW Mine.hd.view_39 []) mean mg mb h₀) (hkk : cs.kind = .function) (hd : dp + 10 * 2 < recursionLimit) (hu : un + 100 * 2 < cLine)
    (ret : ∀ p8 vf8 nf8 ps8 R8 c1 tc1 h' tk', ps8.length ≤ 3 → c ≤ c1 → c1 ≤ c + 7 → Fr h₀ L h' m → News h₀ L h' ((d, listOf #[.ref l, .int c1 tc1] nd) :: (l, listOf ws.toArray nl) :: (dd, o3) :: (rx, o4) :: (rdx, o5) :: (lx, o6) :: (ldx, o7) :: (pd, o8) :: (p8, listOf vf8.toArray nf8) :: R8) → PlistIs R8 vf8 ps8 → (∀ p ∈ ps8, 1 ≤ p.1 ∧ p.1 ≤ 4 ∧ ValIs R8 p.2) →
      (∀ p ∈ (p8, listOf vf8.toArray nf8) :: R8, dd < p.1) → Q (.ref p8) { s with heap := h', toks := tk' }) :
    wpAny (model prog w) (ktrTop dp un gd cn cs L a ccd cl outer) (call (.ref 179) [.ref d, .int 3 tm]) Q E s := by
  refine Spec.use (pairs_spec prog w mean mg mb hdk hch.ld hch.hr hc hc2) B F X N T hkk hd hu fun r news' h' tk' F' N' hp => ?_
  obtain ⟨p8, vf8, nf8, ps8, R8, c1, tc1, rfl, rfl, hpl8, hps8, hpv8, hc1, hc2, ha1, ha2, ha3, ha4⟩ := hp
  exact ret p8 vf8 nf8 ps8 R8 c1 tc1 h' tk' hps8 hc1 hc2 F' (law_norm0 N') hpl8 hpv8 (tail_gt (ha3 _ (List.Mem.head _)) ha4)
end
theorem put8 {prog : Program} {w : World} {A : Around} {E : Value → Shared → Prop} {Q : Unit → Shared → Prop} {s : Shared} {h₀ : Heap} {L : Addr} {m : Str → Option Value} {d l dd rx rdx lx ldx pd p8 : Addr} {o1 o2 odd opd : Obj} {t0 t1 t2 t3 t4 t5 t6 t7 t8 u0 u1 u2 u3 u4 s0 s1 s2 s3 v0 tk : Tok} {n8 : Nat} {v8 : List Value} {ps8 : List (Int × Value)} {R8 : List (Addr × Obj)}
    (F : Fr h₀ L s.heap m) (N : News h₀ L s.heap ((d, o1) :: (l, o2) :: (dd, odd) :: (rx, instObj 59 rdx) :: (rdx, dictOf (rulesEs w.params t0 t1 t2 t3 t4 t5 t6 t7 t8 u0 u1 u2 u3 u4 lx dd) 9) :: (lx, instObj 156 ldx) :: (ldx, dictOf (lispEs w.params s0 s1 s2 s3 v0 pd) 4) :: (pd, opd) :: (p8, listOf v8.toArray n8) :: R8))
    (hch : Chain d l dd rx rdx lx ldx pd) (htl : ∀ p ∈ (p8, listOf v8.toArray n8) :: R8, dd < p.1) (hop : opd.IsDictOf (intKind prog w) []) (hlo : (pd == sysModules) = false) (hlod : (dd == sysModules) = false) (hpl : PlistIs R8 v8 ps8) (hl8 : ps8.length ≤ 3) (hv : ∀ p ∈ ps8, 1 ≤ p.1 ∧ p.1 ≤ 4 ∧ ValIs R8 p.2)
    (ret : ∀ opd' Y h' tk', opd'.IsDictOf (intKind prog w) [(8, .ref p8)] → Fr h₀ L h' m → News h₀ L h' ((d, o1) :: (l, o2) :: (dd, odd) :: Y) → World9 prog w Y rx rdx lx ldx dd pd p8 ps8 opd' → (∀ p ∈ Y, p.1 ≠ d) → (∀ p ∈ Y, p.1 ≠ dd) → @Ne Nat l d → @Ne Nat dd d → @Ne Nat l dd → Q () { s with heap := h', toks := tk' }) :
    wpAny (model prog w) A (setItem (.ref pd) (.int 8 tk) (.ref p8)) Q E s := by
  refine kda_set (knd := intKind _ _) F N (upd_pd hch htl) hop (intKind_is _ _ _ _) (Nat.zero_le _) (fun h' opd9 F' N' hop' => ?_)
  obtain ⟨Y9, NY9, W9, hYd9, hYdd9, hn1, hn2, hn3⟩ := law_gather N' hch htl hop' hlo hlod hpl hl8 hv
  exact ret opd9 Y9 h' _ hop' F' NY9 W9 hYd9 hYdd9 hn1 hn2 hn3
theorem loose_now {kvs : List (Int × Value)} {k n : Int} {t : Tok} : Value.bool (decide (0 < defOf (valueAt (stored kvs k (.int n t)) k))) = .bool (decide (0 < n)) := by rw [valueAt_self]; rfl
theorem tight_now {kvs : List (Int × Value)} {k n : Int} {t : Tok} : Value.bool (decide (defOf (valueAt (stored kvs k (.int n t)) k) < 0)) = .bool (decide (n < 0)) := by rw [valueAt_self]; rfl
theorem loose_no {kvs : List (Int × Value)} (h : valueAt kvs 99 = none) : Value.bool (decide (0 < defOf (valueAt kvs 99))) = .bool false := by rw [h]; rfl
theorem tight_no {kvs : List (Int × Value)} (h : valueAt kvs 99 = none) : Value.bool (decide (defOf (valueAt kvs 99) < 0)) = .bool false := by rw [h]; rfl
theorem base_use {G : Prop} {h₀ h : Heap} {L T dd rx rdx pd lx ldx d l : Addr} {oT od opd : Obj} {P : Params} {t0 t1 t2 t3 t4 t5 t6 t7 t8 u0 u1 u2 u3 u4 s0 s1 s2 s3 v0 tc : Tok} {nd nl : Nat} {ws : List Value} {q1 q2 q3 : Addr × Obj}
    (N : News h₀ L h [(T, oT), (dd, od), (rx, instObj 59 rdx), (rdx, dictOf (rulesEs P t0 t1 t2 t3 t4 t5 t6 t7 t8 u0 u1 u2 u3 u4 lx dd) 9), (pd, opd), (lx, instObj 156 ldx), (ldx, dictOf (lispEs P s0 s1 s2 s3 v0 pd) 4), (d, listOf #[.ref l, .int 0 tc] nd), (l, listOf ws.toArray nl), q1, q2, q3])
    (k : ∀ t0 t1 t2 t3 t4 t5 t6 t7 t8 u0 u1 u2 u3 u4 s0 s1 s2 s3 v0 tc : Tok, News h₀ L h [(d, listOf #[.ref l, .int 0 tc] nd), (l, listOf ws.toArray nl), (dd, od), (rx, instObj 59 rdx), (rdx, dictOf (rulesEs P t0 t1 t2 t3 t4 t5 t6 t7 t8 u0 u1 u2 u3 u4 lx dd) 9), (lx, instObj 156 ldx), (ldx, dictOf (lispEs P s0 s1 s2 s3 v0 pd) 4), (pd, opd)] → G) : G := by
  obtain ⟨t0, t1, t2, t3, t4, t5, t6, t7, t8, u0, u1, u2, u3, u4, s0, s1, s2, s3, v0, tc, N8⟩ := law_base N
  exact k _ _ _ _ _ _ _ _ _ _ _ _ _ _ _ _ _ _ _ _ N8
theorem World9.elim {G : Prop} {prog : Program} {w : World} {B : List (Addr × Obj)} {rx rdx lx ldx dd pd p8 : Addr} {ps8 : List (Int × Value)} {opd : Obj} (W : World9 prog w B rx rdx lx ldx dd pd p8 ps8 opd)
    (k : ∀ t0 t1 t2 t3 t4 t5 t6 t7 t8 u0 u1 u2 u3 u4 s0 s1 s2 s3 v0 : Tok, (rx, instObj 59 rdx) ∈ B → (rdx, dictOf (rulesEs w.params t0 t1 t2 t3 t4 t5 t6 t7 t8 u0 u1 u2 u3 u4 lx dd) 9) ∈ B → (lx, instObj 156 ldx) ∈ B → (ldx, dictOf (lispEs w.params s0 s1 s2 s3 v0 pd) 4) ∈ B → (pd, opd) ∈ B → G) : G := by
  obtain ⟨hWr, ⟨wt0, wt1, wt2, wt3, wt4, wt5, wt6, wt7, wt8, wu0, wu1, wu2, wu3, wu4, hWrd⟩, hWl, ⟨ws0, ws1, ws2, ws3, wv0, hWld⟩, _, _, _, _⟩ := W.W
  exact k _ _ _ _ _ _ _ _ _ _ _ _ _ _ _ _ _ _ _ hWr hWrd hWl hWld W.inB
theorem PlaceIs.elim {G : Prop} {news : List (Addr × Obj)} {P : Addr} {ps : List (Int × Value)} {cat : Option V} (h : PlaceIs news P ps cat) (k : ∀ x, Text news P x → G) : G := by
  obtain ⟨x, hx⟩ := h.text
  exact k x hx
end Mine
namespace Mine
local macro_rules | `(tactic| walk_at $s:str) => `(tactic| k_extra $s)
local macro_rules | `(tactic| k_mem) => `(tactic| ((repeat with_reducible apply List.mem_cons_of_mem); first | with_reducible assumption | (with_reducible apply List.mem_append_left; with_reducible assumption)))
local macro_rules | `(tactic| k_all) => `(tactic| assumption)
local macro_rules | `(tactic| ktr_call $d $l) => `(tactic| (k_dflt (refine' draw_use (d := $d) (l := $l) ?U ?hl ?hk ?hld ?hc ?hc2 ?hm ?hm2 ?B ?F ?X ?N ?T ?hkk ?hd ?hu ?_; (case N => (k_asm)); (case U => (k_updF)); (case hl => (k_mem)); (case hk => (assumption)); (case hld => (assumption)); (case hc => (omega)); (case hc2 => (omega)); (case hm => (omega)); (case hm2 => (omega)); (case B => (k_asm)); (case F => (k_asm)); (case X => (k_asm)); (case T => (k_asm)); (case hkk => first | exact rfl | assumption); (case hd => ktr_room); (case hu => ktr_units))))
set_option maxRecDepth 100000 in
set_option maxHeartbeats 6000000 in
theorem law : PySem.Challenge.rw_on0063_01.Holds := Mine.hd (by
  k_go0
  all_goals try k_fold
  k_with_none
  k_with "getMethod ref" => ((with_reducible show wpAny _ _ (getMethod (Value.ref _) (PySem.Str.ofString "index") _) _ _ _); k_dflt (refine' topT_method ?Fz0 ?Xz0 ?lz0 ?_; (case Fz0 => k_asm); (case Xz0 => k_asm); (case lz0 => k_is)))
  k_with "call builtin:tuple.index" => ((k_dflt (refine' topT_index ?Fz1 ?Xz1 ?lz1 ?jz1 ?_; (case Fz1 => k_asm); (case Xz1 => k_asm); (case lz1 => k_is); (case jz1 => with_unfolding_all rfl))); (try dsimp only))
  k_with "eval Dict nil nil" => ((k_dflt (refine' newDict_K ?k1z2 ?k2z2 ?k3z2 ?_; (case k1z2 => k_asm); (case k2z2 => k_asm); (case k3z2 => exact TopRead.nolimit (by k_asm)); k_whole)); intro d' h' o' F' N' l1 lo' hs' fs' hi' fi'; (try k_lt l1); (try k_sweep))
  k_with "call ref" => ((with_reducible show wpAny _ _ (call (Value.ref 179) _) _ _ _); (fail_if_success (rename DeckIs _ _ => hdk9)); (rename IntsAre _ (_ ++ [_]) => hI9); (have hdk9 := deck_is hI9); (rename News _ _ _ _ => N9); (try k_fold); k_dflt (refine' base_use N9 (fun wt09 wt19 wt29 wt39 wt49 wt59 wt69 wt79 wt89 wu09 wu19 wu29 wu39 wu49 ws09 ws19 ws29 ws39 wv09 wtc9 N8 => ?_)); clear N9; ((k_dflt (refine' pairs8_use hdk9 ?hchz3 ?hcz3 ?hc2z3 ?Bz3 ?Fz3 ?Xz3 ?Nz3 ?Tz3 ?hkz3 ?hdz3 ?huz3 (fun p8 vf8 nf8 ps8 R8 c1 tc1 h' tk' hps8 hc1 hc2 F' N' hpl8 hpv8 htl9 => ?_)))); ((case Nz3 => exact N8)); ((case hchz3 => exact chain_mk (by first | assumption | exact And.left (by assumption)) (by first | assumption | exact And.left (by assumption)) (by first | assumption | exact And.left (by assumption)) (by first | assumption | exact And.left (by assumption)) (by first | assumption | exact And.left (by assumption)) (by first | assumption | exact And.left (by assumption)) (by first | assumption | exact And.left (by assumption)))); ((case hcz3 => omega)); ((case hc2z3 => omega)); (case Bz3 => k_asm); (case Fz3 => k_asm); (case Xz3 => k_asm); (case Tz3 => k_asm); (case hkz3 => first | exact rfl | assumption); (case hdz3 => ktr_room); (case huz3 => ktr_units); clear N8; (try k_fold); (try dsimp only))
  k_with "setItem ref" => ((rename Fr _ _ _ _ => lF'); (rename News _ _ _ _ => lN'); k_dflt (refine' put8 lF' lN' ?hchz4 htl9 ?hopz4 ?hloz4 ?hlodz4 hpl8 hps8 hpv8 (fun opd9 Y9 h' tk' hop9 F' N' W9 hYd9 hYdd9 hn1 hn2 hn3 => ?_); (case hchz4 => exact chain_mk (by first | assumption | exact And.left (by assumption)) (by first | assumption | exact And.left (by assumption)) (by first | assumption | exact And.left (by assumption)) (by first | assumption | exact And.left (by assumption)) (by first | assumption | exact And.left (by assumption)) (by first | assumption | exact And.left (by assumption)) (by first | assumption | exact And.left (by assumption))); (case hopz4 => assumption); (case hloz4 => assumption); (case hlodz4 => assumption)); clear lF' lN' htl9 hpl8 hpv8; (try k_fold); (try dsimp only))
  k_with "call ref" => ((with_reducible show wpAny _ _ (call (Value.ref 172) _) _ _ _); ktr_call _ _; intro k' tr' tc' h' tk' hk0' hk1' F' N'; (try dsimp only at N'); (try k_fold); (try dsimp only))
  k_with "call type:range" => ((rename News _ _ _ _ => N'); (rename Fr _ _ _ _ => F'); (with_unfolding_all refine range1_rows F' N' ?_); intro h' tk' t1' t2' t3' rg' F' N' keep')
  k_with "pyIter ref" => ((with_reducible show wpAny _ _ (pyIter (Value.ref _)) (fun it s₂ => LoopAtV _ _ _ _ _ (Str.ofString "turn") _ _ _ it s₂) _ _); (rename Fr _ _ _ _ => lF'); (rename News _ _ _ _ => lN'); (rename IsRange _ _ _ _ _ _ _ _ => rgX); k_dflt (refine' law_loop ?hLz7 [Str.ofString "turn", Str.ofString "plist", Str.ofString "place", Str.ofString "word", Str.ofString "seen", Str.ofString "held_here", Str.ofString "number", Str.ofString "due", Str.ofString "value", Str.ofString "numbers", Str.ofString "is_listed", Str.ofString "sign"] (by rfl) rgX (by omega) (by omega) (by rfl) lF' lN' ?hopz7 hYd9 hYdd9 (fun i9 u9 h' tk' own9 c9 tc9 odd9 kvs9 Z9 hi9 hcl9 hcu9 hod9 hdf9 hoff9 hYZ9 hoZ9 hZd9 hZdd9 F' N' => ?_) (fun u9 h' tk' c9 tc9 odd9 kvs9 hod9 hdf9 F' N' => ?_); (case hLz7 => exact rfl); (case hopz7 => assumption)); all_goals (clear lF' lN'; (try k_fold)); all_goals ((repeat (rename PyProof.V.FlatPairs _ _ _ => hz9; clear hz9)); (repeat (rename Obj.IsDictOf (PySem.strKind _ _) _ _ => hz9; clear hz9)); (repeat (rename Heap.IsList _ _ _ => hz9; clear hz9)); (repeat (rename ReadsAll _ _ _ _ => hz9; clear hz9))))
  k_with "call ref" => ((with_reducible show wpAny _ _ (call (Value.ref 179) _) _ _ _); (rename DeckIs _ _ => hdk9); ((k_dflt (refine' pairs_use hdk9 hn1 hn2 ?hcz8 ?hc2z8 hZd9 hZdd9 ?Bz8 ?Fz8 ?Xz8 ?Nz8 ?Tz8 ?hkz8 ?hdz8 ?huz8 (fun aP vfP nfP psP cP tcP B1 h' tk' hpsP hcP1 hcP2 F' NB1 hplB hpvB hZB1 hB1d hB1dd hn4 hn5 hlP9 => ?_)))); ((case Nz8 => k_asm)); ((case hcz8 => omega)); ((case hc2z8 => omega)); (case Bz8 => k_asm); (case Fz8 => k_asm); (case Xz8 => k_asm); (case Tz8 => k_asm); (case hkz8 => first | exact rfl | assumption); (case hdz8 => ktr_room); (case huz8 => ktr_units); (try k_fold); (try dsimp only))
  k_with "exec If" => ((with_reducible show wpAny _ _ (exec (Stmt.If _ [Stmt.Assign [Expr.Name (Str.ofString "place") _] _ _, _, _] _ _) _) _ _ _); (fail_if_success (with_reducible show wpAny _ _ _ (JoinPost _ _ _ _ _ _ _ _ _ _ _ _ _ _) _ _)); (rename Fr _ _ _ _ => lF'); (rename News _ _ _ _ => lN'); k_dflt (refine' join_here (Y := Z9) lF' lN' ?_ (fun P9 ps9 cat9 B9 cj9 tcj9 uj9 h' tk' F' N' hpl9 hcj1 hcj2 hBd9 hBdd9 hZB9 => ?kbz9)); case' kbz9 => (clear lF' lN'; (((have hYB9 := fun q hq => hZB9 q (hYZ9 q hq)); (have W10 := W9.mono hYB9); (have hoB9 := fun q hq => hZB9 q (hoZ9 q hq)); clear hplB hpsP hpvB hZB1 hB1d hB1dd hn4 hn5 hlP9 hZB9; (try k_fold); k_dflt (refine' hpl9.elim (fun x9 htx9 => ?_)); k_dflt (refine' W10.elim (fun wt0 wt1 wt2 wt3 wt4 wt5 wt6 wt7 wt8 wu0 wu1 wu2 wu3 wu4 ws0 ws1 ws2 ws3 wv0 hWr hWrd hWl hWld hWpd => ?_)); (try k_fold)))))
  k_with "call builtin:len" => ((with_reducible show wpAny _ _ (call (Value.builtin "len") [Value.ref aP]) _ _ _); (rename Fr _ _ _ _ => lF'); (rename News _ _ _ _ => lN'); k_dflt (refine lenL lN' (by k_mem) hlP9 (by omega) ?_); (try k_fold); (try dsimp only))
  k_with "subscriptTail" => ((with_reducible show wpAny _ _ (subscriptTail _ _ (Value.ref _) (Value.int _ _)) _ _ _); (rename Fr _ _ _ _ => lF'); (rename News _ _ _ _ => lN'); k_dflt (refine' itemV (vs := [Value.ref _, Value.ref _, Value.int _ _, Value.ref _]) lN' (List.Mem.head _) (by omega) (by (show _ < (4 : Int)); omega) (by exact Nat.le_of_ble_eq_true rfl) ?_); intro v' hv'; (try k_fold); (try dsimp only))
  k_with "subscriptTail Name Slice ref ref" => ((with_reducible show wpAny _ _ (subscriptTail _ (Expr.Slice Option.none (Option.some _) Option.none _) (Value.ref _) (Value.ref _)) _ _ _); (rename Fr _ _ _ _ => lF'); (rename News _ _ _ _ => lN'); (with_unfolding_all refine' sl_take lF' lN' (by k_mem) (by omega) (by omega) ?_); intro D' h' F' N' l1; (try k_lt l1); (try k_sweep))
  k_with "subscriptTail Name Slice ref ref" => ((with_reducible show wpAny _ _ (subscriptTail _ (Expr.Slice (Option.some _) Option.none Option.none _) (Value.ref _) (Value.ref _)) _ _ _); (rename Fr _ _ _ _ => lF'); (rename News _ _ _ _ => lN'); (with_unfolding_all refine' sl_drop lF' lN' (by k_mem) (by omega) (by omega) ?_); intro D' h' F' N' l1; (try k_lt l1); (try k_sweep))
  k_with "newTuple" => ((rename Fr _ _ _ _ => lF'); (rename News _ _ _ _ => lN'); k_dflt (refine' kup_newTuple lF' lN' ?_ (by kmk_size)); intro D' h' F' N' l1; (try k_lt l1); (try k_sweep))
  k_with "binaryOp Add ref ref" => ((rename Fr _ _ _ _ => lF'); (rename News _ _ _ _ => lN'); k_dflt (refine' add_ls lF' lN' (by k_mem) (by k_mem) (by simp only [List.length_take, List.length_drop, List.length_append, List.length_cons, List.length_nil]; omega) ?_); intro D' h' F' N' l1; (try k_lt l1); (try k_sweep))
  k_with "JoinPost" => ((rename Fr _ _ _ _ => lF'); (rename News _ _ _ _ => lN'); first | (k_dflt (exact join_plain lF' lN' hplB hpsP hpvB hZB1 hB1d hB1dd hn4 hn5 (by omega) (by omega))) | (k_dflt (refine' join_word lF' lN' rfl (by k_mem) (by k_mem) (by assumption) (by k_mem) (by k_mem) (by k_mem) (List.forall_mem_cons.mpr ⟨by k_mem, List.forall_mem_cons.mpr ⟨by k_mem, List.forall_mem_cons.mpr ⟨by k_mem, by exact fun q hq => by (repeat (first | exact hq | exact List.mem_append_left _ hq | apply List.mem_cons_of_mem))⟩⟩⟩) hplB hpsP hpvB hZB1 hB1d hB1dd ⟨by k_ne, by k_ne⟩ ⟨by k_ne, by k_ne⟩ ⟨by k_ne, by k_ne⟩ ⟨by k_ne, by k_ne⟩ ⟨by k_ne, by k_ne⟩ (by omega) (by omega) (fun z hz => ?_); ((have hq0 := notin_ne (x := Str.ofString "plist") hz (by decide)); (have hq1 := notin_ne (x := Str.ofString "word") hz (by decide)); (have hq2 := notin_ne (x := Str.ofString "place") hz (by decide)); (simp only [if_neg hq0, if_neg hq1, if_neg hq2, hz, Bool.false_eq_true, if_false])))))
  k_with "call builtin:repr" => ((with_reducible show wpAny _ _ (call (Value.builtin "repr") [Value.ref P9]) _ _ _); (rename Fr _ _ _ _ => lF'); (rename News _ _ _ _ => lN'); k_dflt (refine' repr_text lF' lN' (htx9.mono (fun q hq => by (repeat (first | exact hq | apply List.mem_cons_of_mem)))) ?hgz17 ?huz17 ?_; (case hgz17 => exact rfl); (case huz17 => ktr_units)); intro h' u' tk' F' N'; clear lF' lN'; (try k_fold); (try dsimp only))
  k_with "call type:dict" => ((with_reducible show wpAny _ _ (call (Value.type "dict") [Value.ref _]) _ _ _); (rename Fr _ _ _ _ => lF'); (rename News _ _ _ _ => lN'); k_dflt (refine' copy_d (knd := intKind _ _) lF' lN' ?hbz18 ?hmz18 hop9 ?loz18 ?hzz18 ?_; (case hbz18 => exact TopRead.nolimit (by k_asm)); (case hmz18 => k_mem); (case loz18 => exact W10.lo); (case hzz18 => exact Nat.le_of_ble_eq_true rfl)); intro D9 h' oD9 F' N' loD9 hoD9 l1; (try k_lt l1); clear lF' lN'; (try k_fold); (try dsimp only))
  k_with "exec For" => ((with_reducible show wpAny _ _ (exec (Stmt.For (Expr.Name (Str.ofString "number") _) (Expr.Tuple _ _ _) _ _ _) _) _ _ _); (rename Fr _ _ _ _ => lF'); (with_unfolding_all refine' For_turns lF' ?_); k_whole)
  k_with "pyIter ref" => ((with_reducible show wpAny _ _ (pyIter (Value.ref _)) (fun it s₂ => TurnsAt _ _ _ _ _ (Expr.Name (Str.ofString "number") _) _ _ _ it s₂) _ _); (rename Fr _ _ _ _ => lF'); (rename News _ _ _ _ => lN'); (with_unfolding_all refine' tup_turns ?hLz20 (vs := [Value.int _ _, Value.int _ _, Value.int _ _, Value.int _ _, Value.int _ _, Value.int _ _]) [Str.ofString "number", Str.ofString "due"] (fun _ => True) (by rfl) (List.Mem.head _) lF' lN' trivial (fun i7 v7 u7 h' tk' own7 hv7 hP7 hoff7 F' N' => ?_) (fun u7 h' tk' hP7 F' N' => ?_); (case hLz20 => exact rfl)); all_goals (clear lF' lN'; (try simp only [List.cons_append] at N'); (try k_fold)); (try (obtain ⟨k7, t7, rfl⟩ := six_ints hv7)))
  k_with "compareOp NotEq str str" => (k_dflt (refine ne_strS ?_); (try k_fold); (try dsimp only))
  k_with "compareOp NotEq ref ref" => ((with_reducible show wpAny _ _ (compareOp CmpOp.NotEq (Value.ref _) (Value.ref D9)) _ _ _); (rename Fr _ _ _ _ => lF'); (rename News _ _ _ _ => lN'); k_dflt (refine' ne_d lN' ?hmz22 hop9 W10.lo ?hm2z22 hoD9 loD9 ?huz22 ?_; (case hmz22 => k_mem); (case hm2z22 => k_mem); (case huz22 => ktr_units)); (try k_fold); (try dsimp only))
  k_with "call ref" => ((with_reducible show wpAny _ _ (call (Value.ref 186) _) _ _ _); ((k_dflt (refine' Spec.use_eq (lawValue_use W10 hpl9 ?hsz23 ?hhz23 loD9 hoD9) rfl ?Bz23 ?Fz23 ?Xz23 ?Nz23 ?Tz23 ?hkz23 ?hdz23 ?huz23 (fun h' tk' F' N' => ?_)))); ((case Nz23 => k_asm)); ((case hhz23 => k_dflt k_mem)); ((case hsz23 => exact (fun q hq => by (repeat (first | exact hq | exact List.mem_append_left _ hq | apply List.mem_cons_of_mem))))); (case Bz23 => k_asm); (case Fz23 => k_asm); (case Xz23 => k_asm); (case Tz23 => k_asm); (case hkz23 => first | exact rfl | assumption); (case hdz23 => ktr_room); (case huz23 => ktr_units); (try k_fold); (try dsimp only))
  k_with "call type:list" => ((with_reducible show wpAny _ _ (call (Value.type "list") [Value.ref P9]) _ _ _); (rename Fr _ _ _ _ => lF'); (rename News _ _ _ _ => lN'); k_dflt (refine' copy_place lF' lN' hpl9 (fun q hq => by (repeat (first | exact hq | exact List.mem_append_left _ hq | apply List.mem_cons_of_mem))) (fun D7 o7 h' F' N' hplD l1 => ?_)); (try k_lt l1); clear lF' lN'; (try k_fold); (try dsimp only))
  k_with "call ref" => ((with_reducible show wpAny _ _ (call (Value.ref 70) _) _ _ _); ((k_dflt (refine' Spec.use_eq (valueIn_use W10 ?hsz25 hplD) rfl ?Bz25 ?Fz25 ?Xz25 ?Nz25 ?Tz25 ?hkz25 ?hdz25 ?huz25 (fun h' tk' F' N' => ?_)))); ((case Nz25 => k_asm)); ((case hsz25 => exact (fun q hq => by (repeat (first | exact hq | exact List.mem_append_left _ hq | apply List.mem_cons_of_mem))))); (case Bz25 => k_asm); (case Fz25 => k_asm); (case Xz25 => k_asm); (case Tz25 => k_asm); (case hkz25 => first | exact rfl | assumption); (case hdz25 => ktr_room); (case huz25 => ktr_units); (try k_fold); (try dsimp only))
  k_with "call ref" => ((with_reducible show wpAny _ _ (call (Value.ref 193) _) _ _ _); ((k_dflt (refine' Spec.use_eq (isLike_use W10 hpl9 ?hsz26) rfl ?Bz26 ?Fz26 ?Xz26 ?Nz26 ?Tz26 ?hkz26 ?hdz26 ?huz26 (fun h' tk' F' N' => ?_)))); ((case Nz26 => k_asm)); ((case hsz26 => exact (fun q hq => by (repeat (first | exact hq | exact List.mem_append_left _ hq | apply List.mem_cons_of_mem))))); (case Bz26 => k_asm); (case Fz26 => k_asm); (case Xz26 => k_asm); (case Tz26 => k_asm); (case hkz26 => first | exact rfl | assumption); (case hdz26 => ktr_room); (case huz26 => ktr_units); (try k_fold); (try dsimp only))
  k_with "call ref" => ((with_reducible show wpAny _ _ (call (Value.ref 198) _) _ _ _); (rename News _ _ _ _ => lN'); (have N8 := news_tl (news_tl (news_tl lN'))); clear lN'; ((k_dflt (refine' listed_use hdk9 hn1 hn2 ?hcz27 ?hc2z27 hBd9 hBdd9 ?Bz27 ?Fz27 ?Xz27 ?Nz27 ?Tz27 ?hkz27 ?hdz27 ?huz27 (fun T8 nu8 v8 fl8 vs8 ns8 o8 b8 c8 tc8 B8 k81 k82 h' tk' F' NB8 hc81 hc82 hT8 hnu8 hi8 hl8 hf8 hBB8 hB8d hB8dd => ?_)))); ((case Nz27 => exact N8)); ((case hcz27 => omega)); ((case hc2z27 => omega)); (case Bz27 => k_asm); (case Fz27 => k_asm); (case Xz27 => k_asm); (case Tz27 => k_asm); (case hkz27 => first | exact rfl | assumption); (case hdz27 => ktr_room); (case huz27 => ktr_units); clear N8; (have W11 := W10.mono hBB8); (have hoB8 := fun q hq => hBB8 q (hoB9 q hq)); (have hYB8 := fun q hq => hBB8 q (hYB9 q hq)); (have hWr8 := hBB8 _ hWr); (have hWrd8 := hBB8 _ hWrd); clear hWr hWrd hWl hWld hWpd; (try k_fold); (try dsimp only))
  k_with "pyIter ref" => ((with_reducible show wpAny _ _ (pyIter (Value.ref _)) (fun it s₂ => LoopAtV _ _ _ _ _ (Str.ofString "number") _ _ _ it s₂) _ _); (rename Fr _ _ _ _ => lF'); (rename News _ _ _ _ => lN'); (rename IsRange _ _ _ _ _ _ _ _ => rgX); k_dflt (refine' range_turns ?hLz28 5 [Str.ofString "number", Str.ofString "due"] (by rfl) (by rfl) rgX (by rfl) (by omega) lF' lN' (fun i8 t8 u8 h' tk' own8 hi8' hoff8 F' N' => ?_) (fun u8 h' tk' F' N' => ?_); (case hLz28 => exact rfl)); all_goals (clear lF' lN'; (try simp only [List.cons_append] at N'); (try k_fold)); all_goals (try (have hz9 := hi8'; clear hz9; rcases hf8 with ⟨rfl, hmem8⟩ | ⟨rfl, rfl, rfl, rfl⟩ | ⟨rfl, rfl, rfl, rfl⟩)))
  k_with "compareOp In int ref" => ((rename Fr _ _ _ _ => lF'); (rename News _ _ _ _ => lN'); k_dflt (refine' in_ns lN' (by k_mem) hi8 ?_); (try k_fold); (try dsimp only))
  k_with "call ref" => ((with_reducible show wpAny _ _ (call (Value.ref 75) _) _ _ _); ((k_dflt (refine' Spec.use_eq (member_spec _ _ _ _ _ (W11.W.mono ?hsz30) ?hvz30) ?ez30 ?Bz30 ?Fz30 ?Xz30 ?Nz30 ?Tz30 ?hkz30 ?hdz30 ?huz30 (fun h' tk' F' N' => ?_)))); ((case Nz30 => k_asm)); ((case hsz30 => exact (fun q hq => by (repeat (first | exact hq | exact List.mem_append_left _ hq | apply List.mem_cons_of_mem))))); ((case hvz30 => exact hl8.mono (fun q hq => by (repeat (first | exact hq | exact List.mem_append_left _ hq | apply List.mem_cons_of_mem))))); ((case ez30 => k_dflt (first | exact congrArg Value.bool (hmem8 _ (Int.natCast_nonneg _)) | (show _ = Value.bool true; exact rfl) | (show _ = Value.bool false; exact rfl)))); (case Bz30 => k_asm); (case Fz30 => k_asm); (case Xz30 => k_asm); (case Tz30 => k_asm); (case hkz30 => first | exact rfl | assumption); (case hdz30 => ktr_room); (case huz30 => ktr_units); (try k_fold); (try dsimp only))
  k_with "setItem ref" => ((have hz9 := hB8dd; clear hz9); (rename Fr _ _ _ _ => lF'); (rename News _ _ _ _ => lN'); (have N8 := news_tl lN'); (have hz8 : kvs9.length ≤ sizeLine := by (have h99 := hdf9.len); (have h98 := sizeLine_eq); omega); k_dflt (refine' kda_set (knd := intKind _ _) lF' N8 ?hUz31 hod9 (intKind_is _ _ _ _) hz8 (fun h' odd8 F' N' hodd8 => ?_); (case hUz31 => exact upd3 hn2 hn3 hB8dd)); clear N8 lF' lN'; (try k_fold); (try dsimp only))
  k_with "call ref" => ((with_reducible show wpAny _ _ (call (Value.ref 82) _) _ _ _); ((k_dflt (refine' Spec.use_eq (loose_spec _ _ _ _ _ (W9.W.mono ?hsz32) ?hddz32 hod9 W9.lod (hdf9.int 99)) (loose_no hdf9.none99) ?Bz32 ?Fz32 ?Xz32 ?Nz32 ?Tz32 ?hkz32 ?hdz32 ?huz32 (fun h' tk' F' N' => ?_)))); ((case Nz32 => k_asm)); ((case hsz32 => exact (fun q hq => by (repeat (first | exact hq | exact List.mem_append_left _ hq | apply List.mem_cons_of_mem))))); ((case hddz32 => k_dflt k_mem)); (case Bz32 => k_asm); (case Fz32 => k_asm); (case Xz32 => k_asm); (case Tz32 => k_asm); (case hkz32 => first | exact rfl | assumption); (case hdz32 => ktr_room); (case huz32 => ktr_units); (try k_fold); (try dsimp only))
  k_with "call ref" => ((with_reducible show wpAny _ _ (call (Value.ref 82) _) _ _ _); (have hz9 := W11; clear hz9); ((k_dflt (refine' Spec.use_eq (loose_spec _ _ _ _ _ (W11.W.mono ?hsz33) ?hddz33 hodd8 W11.lod (.inr ⟨_, _, valueAt_self⟩)) loose_now ?Bz33 ?Fz33 ?Xz33 ?Nz33 ?Tz33 ?hkz33 ?hdz33 ?huz33 (fun h' tk' F' N' => ?_)))); ((case Nz33 => k_asm)); ((case hsz33 => exact (fun q hq => by (repeat (first | exact hq | exact List.mem_append_left _ hq | apply List.mem_cons_of_mem))))); ((case hddz33 => k_dflt k_mem)); (case Bz33 => k_asm); (case Fz33 => k_asm); (case Xz33 => k_asm); (case Tz33 => k_asm); (case hkz33 => first | exact rfl | assumption); (case hdz33 => ktr_room); (case huz33 => ktr_units); (try k_fold); (try dsimp only))
  k_with "call ref" => ((with_reducible show wpAny _ _ (call (Value.ref 89) _) _ _ _); ((k_dflt (refine' Spec.use_eq (tight_spec _ _ _ _ _ (W9.W.mono ?hsz34) ?hddz34 hod9 W9.lod (hdf9.int 99)) (tight_no hdf9.none99) ?Bz34 ?Fz34 ?Xz34 ?Nz34 ?Tz34 ?hkz34 ?hdz34 ?huz34 (fun h' tk' F' N' => ?_)))); ((case Nz34 => k_asm)); ((case hsz34 => exact (fun q hq => by (repeat (first | exact hq | exact List.mem_append_left _ hq | apply List.mem_cons_of_mem))))); ((case hddz34 => k_dflt k_mem)); (case Bz34 => k_asm); (case Fz34 => k_asm); (case Xz34 => k_asm); (case Tz34 => k_asm); (case hkz34 => first | exact rfl | assumption); (case hdz34 => ktr_room); (case huz34 => ktr_units); (try k_fold); (try dsimp only))
  k_with "call ref" => ((with_reducible show wpAny _ _ (call (Value.ref 89) _) _ _ _); (have hz9 := W11; clear hz9); ((k_dflt (refine' Spec.use_eq (tight_spec _ _ _ _ _ (W11.W.mono ?hsz35) ?hddz35 hodd8 W11.lod (.inr ⟨_, _, valueAt_self⟩)) tight_now ?Bz35 ?Fz35 ?Xz35 ?Nz35 ?Tz35 ?hkz35 ?hdz35 ?huz35 (fun h' tk' F' N' => ?_)))); ((case Nz35 => k_asm)); ((case hsz35 => exact (fun q hq => by (repeat (first | exact hq | exact List.mem_append_left _ hq | apply List.mem_cons_of_mem))))); ((case hddz35 => k_dflt k_mem)); (case Bz35 => k_asm); (case Fz35 => k_asm); (case Xz35 => k_asm); (case Tz35 => k_asm); (case hkz35 => first | exact rfl | assumption); (case hdz35 => ktr_room); (case huz35 => ktr_units); (try k_fold); (try dsimp only))
  k_with "compareOp NotEq bool bool" => (k_dflt (refine ne_boolE (by simp only [gt_iff_lt]) ?_); (try k_fold); (try dsimp only))
  k_with "compareOp NotEq bool bool" => ((with_reducible refine ne_boolS ?_); (try k_fold); (try dsimp only))
  k_steps
  · refine six_end F' N' (fun z hz => ?_)
    have hq0 := notin_ne (x := Str.ofString "number") hz (by decide)
    have hq1 := notin_ne (x := Str.ofString "due") hz (by decide)
    simp only [if_neg hq0, if_neg hq1, hz, Bool.false_eq_true, if_false]
  · refine five_end F' N' hoff8 (fun z hz => ?_)
    have hq0 := notin_ne (x := Str.ofString "number") hz (by decide)
    have hq1 := notin_ne (x := Str.ofString "due") hz (by decide)
    simp only [if_neg hq0, if_neg hq1, hz, Bool.false_eq_true, if_false]
  · refine five_end F' N' hoff8 (fun z hz => ?_)
    have hq0 := notin_ne (x := Str.ofString "number") hz (by decide)
    have hq1 := notin_ne (x := Str.ofString "due") hz (by decide)
    simp only [if_neg hq0, if_neg hq1, hz, Bool.false_eq_true, if_false]
  · refine five_end F' N' hoff8 (fun z hz => ?_)
    have hq0 := notin_ne (x := Str.ofString "number") hz (by decide)
    have hq1 := notin_ne (x := Str.ofString "due") hz (by decide)
    simp only [if_neg hq0, if_neg hq1, hz, Bool.false_eq_true, if_false]
  · refine turn_end F' N' hYB8 hoB8 hoff9 hodd8 (hdf9.put (by omega)) (by omega) (by omega) (fun z hz => ?_)
    have hq0 := notin_ne (x := Str.ofString "sign") hz (by decide)
    have hq1 := notin_ne (x := Str.ofString "number") hz (by decide)
    have hq2 := notin_ne (x := Str.ofString "is_listed") hz (by decide)
    have hq3 := notin_ne (x := Str.ofString "numbers") hz (by decide)
    have hq4 := notin_ne (x := Str.ofString "value") hz (by decide)
    have hq5 := notin_ne (x := Str.ofString "due") hz (by decide)
    have hq6 := notin_ne (x := Str.ofString "seen") hz (by decide)
    have hq7 := notin_ne (x := Str.ofString "held_here") hz (by decide)
    have hq8 := notin_ne (x := Str.ofString "plist") hz (by decide)
    have hq99 : [Str.ofString "number", Str.ofString "due"].contains z = false := by simp [hq1, hq5]
    simp only [if_neg hq0, if_neg hq1, if_neg hq2, if_neg hq3, if_neg hq4, if_neg hq5, if_neg hq6, if_neg hq7, if_neg hq8, hq99, hz, Bool.false_eq_true, if_false]
)
end Mine
theorem PySem.Challenge.cw_on0063_01_holds : PySem.Challenge.rw_on0063_01.Holds := by
  exact Mine.law
