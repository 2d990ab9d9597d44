import PyProof.Rows.All
import Wide.All
import OpenK.AllK
import Wide.FinOn
import PySem.Challenge.RW_ok0041_01
open PySem PySem.W PyProof.Rows
set_option Elab.async false
set_option compiler.extract_closed false
namespace Mine
set_option maxRecDepth 100000 in
set_option maxHeartbeats 8000000 in
open_top hd for PySem.Challenge.rw_ok0041_01

section
open PySem PySem.W PyProof.Rows PySem.Calls PySem.Spec
set_option Elab.async false
abbrev Led := List (Addr × Obj)

/-- what a property's value is -/
inductive PV where
  | int (n : Int)
  | bool (b : Bool)
  | str (x : PySem.Str)
inductive VIs : Value → PV → Prop
  | int (n : Int) (t : Tok) : VIs (.int n t) (.int n)
  | bool (b : Bool) : VIs (.bool b) (.bool b)
  | str (x : PySem.Str) (t : Tok) : VIs (.str x t) (.str x)
def PV.eqv : PV → PV → Bool
  | .int a, .int b => decide (a = b)
  | .bool a, .bool b => decide (a = b)
  | .str a, .str b => decide (a = b)
  | _, _ => false

abbrev tupOf (vs : List Value) : Obj := { cls := .type "tuple", data := .seq vs.toArray }
/-- one pair of a list -/
inductive PairIn (news : Led) : Value → Int × PV → Prop
  | mk {a : Addr} {k : Int} {t : Tok} {v : Value} {pv : PV} : (a, tupOf [.int k t, v]) ∈ news → VIs v pv → PairIn news (.ref a) (k, pv)
inductive PairsIn (news : Led) : List Value → List (Int × PV) → Prop
  | nil : PairsIn news [] []
  | cons {v : Value} {vs : List Value} {d : Int × PV} {ds : List (Int × PV)} : PairIn news v d → PairsIn news vs ds → PairsIn news (v :: vs) (d :: ds)
/-- a property list at l -/
inductive PL (news : Led) : Value → List (Int × PV) → Prop
  | mk {l : Addr} {vs : List Value} {n : Nat} {ds : List (Int × PV)} : (l, listOf vs.toArray n) ∈ news → PairsIn news vs ds → PL news (.ref l) ds

def Above (news tl : Led) : Prop := ∀ q ∈ news, ∀ p ∈ tl, q.1 ≠ p.1

/-- what a call of a def of the text's is told to do -/
def Tl (prog : Program) (w : World) (p : Program) (loose : List PySem.Str) (mean : ExcName → Option Value) (mg mb : PySem.Str → Option Value) (c : Nat) (f : Addr) (vs : List Value) (L0 news : Led) (Out : Led → Value → Prop) : Prop :=
  (∀ p ∈ L0, p ∈ news) → ∀ (dp un : Nat) (cn : PySem.Str) (cs : Scope) (a : Addr) (ccd : Value) (cl : List (PySem.Str × Addr)) (outer : List Env) (A₀ : Around) (base h₀ : Heap) (L : Addr) (m : PySem.Str → Option Value) (s : Shared) (Q E : Value → Shared → Prop),
    Below A₀ base outer h₀ → Fr h₀ L s.heap m → (Mine.hd.heap_39 w.params).In h₀ → News h₀ L s.heap news → Top p loose mean mg mb h₀ → cs.kind = .function → dp + c < recursionLimit → un + 10 * c < cLine →
    (∀ r tl h' tk', Fr h₀ L h' m → News h₀ L h' (tl ++ news) → Above news tl → Out (tl ++ L0) r → Q r { s with heap := h', toks := tk' }) →
    wpAny (model prog w) (ktrTop dp un (some []) cn cs L a ccd cl outer) (call (.ref f) vs) Q E s
/-- the same of a call that hands back a plain value and leaves nothing -/
def TlV (prog : Program) (w : World) (p : Program) (loose : List PySem.Str) (mean : ExcName → Option Value) (mg mb : PySem.Str → Option Value) (c : Nat) (f : Addr) (vs : List Value) (news : Led) (Out : Value → Prop) : Prop :=
  ∀ (dp un : Nat) (cn : PySem.Str) (cs : Scope) (a : Addr) (ccd : Value) (cl : List (PySem.Str × Addr)) (outer : List Env) (A₀ : Around) (base h₀ : Heap) (L : Addr) (m : PySem.Str → Option Value) (s : Shared) (Q E : Value → Shared → Prop),
    Below A₀ base outer h₀ → Fr h₀ L s.heap m → (Mine.hd.heap_39 w.params).In h₀ → News h₀ L s.heap news → Top p loose mean mg mb h₀ → cs.kind = .function → dp + c < recursionLimit → un + 10 * c < cLine →
    (∀ r h' tk', Fr h₀ L h' m → News h₀ L h' news → Out r → Q r { s with heap := h', toks := tk' }) →
    wpAny (model prog w) (ktrTop dp un (some []) cn cs L a ccd cl outer) (call (.ref f) vs) Q E s
end

section
open PySem PySem.W PyProof.Rows PySem.Calls PySem.Spec
set_option Elab.async false
/-- where the walk is to stand still -/
structure Stop (P : Prop) : Prop where
  go : P
theorem stop {P : Prop} (h : Stop P) : P := h.go
theorem PairsIn.length {news : Led} {vs : List Value} {ds : List (Int × PV)} (h : PairsIn news vs ds) : vs.length = ds.length := by
  induction h with
  | nil => rfl
  | cons _ _ ih => simp [ih]
theorem PairsIn.get {news : Led} {vs : List Value} {ds : List (Int × PV)} (h : PairsIn news vs ds) : ∀ {k : Nat} (hk : k < ds.length), ∃ v, vs[k]? = some v ∧ PairIn news v (ds[k]'hk) := by
  induction h with
  | nil => intro k hk; exact absurd hk (Nat.not_lt_zero _)
  | cons hp _ ih =>
    intro k hk
    cases k with
    | zero => exact ⟨_, rfl, hp⟩
    | succ k => exact ih (Nat.lt_of_succ_lt_succ hk)
theorem PairIn.mono {news news' : Led} (hs : ∀ p ∈ news, p ∈ news') {v : Value} {d : Int × PV} (h : PairIn news v d) : PairIn news' v d := by
  cases h with
  | mk hm hv => exact .mk (hs _ hm) hv
theorem PairsIn.mono {news news' : Led} (hs : ∀ p ∈ news, p ∈ news') {vs : List Value} {ds : List (Int × PV)} (h : PairsIn news vs ds) : PairsIn news' vs ds := by
  induction h with
  | nil => exact .nil
  | cons hp _ ih => exact .cons (hp.mono hs) ih
theorem PL.mono {news news' : Led} (hs : ∀ p ∈ news, p ∈ news') {v : Value} {ds : List (Int × PV)} (h : PL news v ds) : PL news' v ds := by
  cases h with
  | mk hm hv => exact .mk (hs _ hm) (hv.mono hs)

section
variable {prog : Program} {w : World} {A : Around} {E : Value → Shared → Prop} {s : Shared} {h₀ : Heap} {L l : Addr}
theorem pl_len {news L9 : Led} {us : List Value} {ds : List (Int × PV)} {n : Nat} {Q : Value → Shared → Prop} (N : News h₀ L s.heap news) (hm : (l, listOf us.toArray n) ∈ news) (hd : PairsIn L9 us ds) (hfit : ds.length ≤ 1000)
    (h : Q (.int (ds.length : Int) (s.toks + 1)) { s with toks := s.toks + 1 + 1 }) : wpAny (model prog w) A (call (.builtin "len") [.ref l]) Q E s := by
  have hl : s.heap.IsList l us.toArray := ⟨_, (N _ hm).1, rfl, n, rfl⟩
  have e : us.toArray.size = ds.length := by rw [List.size_toArray, hd.length]
  exact len_list hl (by rw [e]; omega) (by rw [e]; exact h)
theorem pl_item {value slice : PySem.Expr} {news L9 : Led} {us : List Value} {ds : List (Int × PV)} {n : Nat} {k : Int} {u : Tok} {Q : Value → Shared → Prop} (N : News h₀ L s.heap news) (hm : (l, listOf us.toArray n) ∈ news) (hd : PairsIn L9 us ds)
    (h0 : 0 ≤ k) (h1 : k < (ds.length : Int)) (hfit : ds.length ≤ 1000)
    (h : ∀ a kk t v pv, ds[k.toNat]? = some (kk, pv) → (a, tupOf [.int kk t, v]) ∈ L9 → VIs v pv → Q (.ref a) s)
    (hs : subscripted slice false (.ref l) (.int k u) = operate [.ref l, .int k u] (getItem (.ref l) (.int k u)) := by with_unfolding_all rfl) :
    wpAny (model prog w) A (subscriptTail value slice (.ref l) (.int k u)) Q E s := by
  have hk : k.toNat < ds.length := by omega
  obtain ⟨v, hv, hD⟩ := hd.get hk
  have hl : s.heap.IsList l us.toArray := ⟨_, (N _ hm).1, rfl, n, rfl⟩
  have hD' := List.getElem?_eq_getElem hk
  generalize ds[k.toNat]'hk = q at hD hD'
  cases hD with
  | mk ha hV => exact tail_any hl.typeIs slot_list_getitem.lookup (wpAny_getItem_list hl h0 (by omega) (by simpa using hv) (h _ _ _ _ _ hD' ha hV)) hs
end

section
variable {prog : Program} {w : World} {A : Around} {E : Value → Shared → Prop} {s : Shared} {env : Env} {h₀ : Heap} {x : PySem.Str} {body : List Stmt} {Q : Flow → Shared → Prop}
/-- a for over range(n), by an invariant over the turn's number -/
theorem rng_iter {r : Addr} {b₀ : Int} {t₀ u₀ v₀ : Tok} {n : Nat} {m₀ : PySem.Str → Option Value} {news : Led} (J : Nat → (PySem.Str → Option Value) → Led → Prop)
    (hr : IsRange s.heap r 0 b₀ 1 t₀ u₀ v₀) (hh : A.handled = none) (hb : b₀ = (n : Int)) (hn : n ≤ 1000) (F : Fr h₀ env.locals s.heap m₀) (N : News h₀ env.locals s.heap news) (hj : J 0 m₀ news)
    (turn : ∀ i t m₁ nx h tk own, i < n → OwnOff own (nx.map (·.1)) → J i m₁ nx → Fr h₀ env.locals h (fun y => if y = x then some (.int (i : Int) t) else m₁ y) → News h₀ env.locals h (nx ++ own) →
      wpAny (model prog w) A (execs body env) (InvPostG h₀ env.locals (J (i + 1)) own { s with heap := h, toks := tk } Q) E { s with heap := h, toks := tk })
    (done : ∀ m₁ nx h tk, J n m₁ nx → Fr h₀ env.locals h m₁ → News h₀ env.locals h nx → Q .next { s with heap := h, toks := tk }) :
    wpAny (model prog w) A (pyIter (.ref r)) (fun it s₂ => LoopAtV prog w A h₀ env x body Q E it s₂) E s := by
  subst hb
  have hsz : Builtin.Range.rangeSize 0 (n : Int) 1 = (n : Int) := by
    rw [rangeSize_nat]; omega
  have hsmall : Builtin.Range.small 0 (n : Int) 1 = true := small_one (by omega) (by omega) (by omega) (by omega)
  refine wpAny_pyIter_range hr hsmall ?_
  have W : Walks prog w A s.heap.objs.size [s.heap.objs.size] [s.heap.objs.size] n (fun i v => i < n ∧ ∃ t, v = .int (0 + i * 1) t)
      (fun i h => IsRangeIter h s.heap.objs.size (0 + (i : Nat) * 1) ((n : Int) - (i : Nat)) 1) := (Walks.range hh _ 0 1 n).bound
  refine kdr_loop J W (fun _ h => h) (fun _ h => h) ?_ ?_ ?_ ?_ (by show IsRangeIter _ _ _ _ _; rw [hsz]; simpa using Heap.get?_push_size _ rfl) (F.push _) (fun p hp => ⟨Heap.get?_push_of_some _ (N p hp).1, (N p hp).2⟩) hj ?_ ?_
  · intro i h hi b hb
    rw [List.mem_singleton.mp hb]
    exact ⟨_, hi⟩
  · intro hm
    exact absurd F.ns.lt ((List.mem_singleton.mp hm) ▸ Nat.lt_irrefl _)
  · intro b hb
    rw [List.mem_singleton.mp hb]
    exact next_is_new F
  · intro p hp hI
    exact absurd (Heap.lt_size (N p hp).1) ((List.mem_singleton.mp hI) ▸ Nat.lt_irrefl _)
  · rintro i v m₁ nx h tk own hi ⟨_, t, rfl⟩ hoff hJ F₁ N₁
    have e1 : (0 : Int) + (i : Int) * 1 = (i : Int) := by omega
    rw [e1] at F₁
    exact turn i t m₁ nx h tk own hi hoff hJ F₁ N₁
  · rintro m₁ nx h tk hJ F₁ N₁
    exact done m₁ nx h tk hJ F₁ N₁
/-- what a turn leaves of the frame's map: all but the named -/
def Same (but : List PySem.Str) (m₀ m : PySem.Str → Option Value) : Prop := ∀ z, z ∉ but → m z = m₀ z
theorem Same.rfl {but : List PySem.Str} {m₀ : PySem.Str → Option Value} : Same but m₀ m₀ := fun _ _ => Eq.refl _
theorem Same.at {but : List PySem.Str} {m₀ m : PySem.Str → Option Value} (h : Same but m₀ m) {z : PySem.Str} (hz : z ∉ but) : m z = m₀ z := h z hz
theorem Same.put {but : List PySem.Str} {m₀ m : PySem.Str → Option Value} {x : PySem.Str} {v : Option Value} (h : Same but m₀ m) (hx : x ∈ but) : Same but m₀ (fun y => if y = x then v else m y) := by
  intro z hz
  have : z ≠ x := fun e => hz (e ▸ hx)
  simp only [if_neg this]
  exact h z hz
theorem Same.known {but : List PySem.Str} {m₀ m : PySem.Str → Option Value} {x : PySem.Str} {v : Option Value} (h : Same (x :: but) m₀ m) (hx : m x = v) : Same but (fun y => if y = x then v else m₀ y) m := by
  intro z hz
  by_cases e : z = x
  · subst e; simp [hx]
  · simp only [if_neg e]
    refine h z fun hm => ?_
    rcases List.mem_cons.mp hm with hm | hm
    · exact e hm
    · exact hz hm
/-- what a frame's map is, but for some names -/
theorem fr_but {h₀ h : Heap} {L : Addr} {m₀ m₁ : PySem.Str → Option Value} {v : Value} {x : PySem.Str} (h1 : Same [x] m₀ m₁) (F : Fr h₀ L h (fun y => if y = x then some v else m₁ y)) :
    Fr h₀ L h (fun y => if y = x then some v else m₀ y) := by
  have e : (fun y => if y = x then some v else m₀ y) = fun y => if y = x then some v else m₁ y := by
    funext y
    by_cases hy : y = x
    · simp [hy]
    · simp only [if_neg hy]; exact (h1 y (by simpa using hy)).symm
  rw [e]; exact F
theorem fr_but2 {h₀ h : Heap} {L : Addr} {m₀ m₁ : PySem.Str → Option Value} {v1 v2 : Value} {x1 x2 : PySem.Str} (h1 : Same [x1, x2] m₀ m₁) (F : Fr h₀ L h (fun y => if y = x2 then some v2 else if y = x1 then some v1 else m₁ y)) :
    Fr h₀ L h (fun y => if y = x2 then some v2 else if y = x1 then some v1 else m₀ y) := by
  have e : (fun y => if y = x2 then some v2 else if y = x1 then some v1 else m₀ y) = fun y => if y = x2 then some v2 else if y = x1 then some v1 else m₁ y := by
    funext y
    by_cases hy : y = x2
    · simp [hy]
    · by_cases hy1 : y = x1
      · simp [hy, hy1]
      · simp only [if_neg hy, if_neg hy1]; exact (h1 y (by simpa using ⟨hy1, hy⟩)).symm
  rw [e]; exact F
end
section
variable {prog : Program} {w : World} {A : Around} {E : Value → Shared → Prop} {s : Shared} {env : Env} {h₀ : Heap} {x1 x2 : PySem.Str} {body : List Stmt} {Q : Flow → Shared → Prop}
/-- a for over a property list, its pairs unpacked into two names -/
def PLLoop (prog : Program) (w : World) (A : Around) (h₀ : Heap) (env : Env) (x1 x2 : PySem.Str) (body : List Stmt) (Q : Flow → Shared → Prop) (E : Value → Shared → Prop) (xv : Value) (s₁ : Shared) : Prop :=
  ∃ (l : Addr) (vs : List Value) (nn : Nat) (ds : List (Int × PV)) (m : PySem.Str → Option Value) (frozen news : Led) (J : Nat → (PySem.Str → Option Value) → Led → Prop),
    xv = .ref l ∧ (l, listOf vs.toArray nn) ∈ frozen ∧ PairsIn frozen vs ds ∧ Fr h₀ env.locals s₁.heap m ∧ News h₀ env.locals s₁.heap news ∧ (∀ i m nx, J i m nx → ∀ p ∈ frozen, p ∈ nx) ∧ J 0 m news ∧
    (∀ i k t v pv m₁ nx h tk own, ds[i]? = some (k, pv) → VIs v pv → OwnOff own (nx.map (·.1)) → J i m₁ nx →
      Fr h₀ env.locals h (fun y => if y = x2 then some v else if y = x1 then some (.int k t) else m₁ y) → News h₀ env.locals h (nx ++ own) →
      wpAny (model prog w) A (execs body env) (InvPostG h₀ env.locals (J (i + 1)) own { s₁ with heap := h, toks := tk } Q) E { s₁ with heap := h, toks := tk }) ∧
    (∀ m₁ nx h tk, J ds.length m₁ nx → Fr h₀ env.locals h m₁ → News h₀ env.locals h nx → Q .next { s₁ with heap := h, toks := tk })
theorem For_pl {p1 p2 pt pos : Pos} {kk : Nat} {iter : Expr} {m₀ : PySem.Str → Option Value} (_F : Fr h₀ env.locals s.heap m₀) (hh : A.handled = none) (hx1 : env.kindOf x1 = some .local) (hx2 : env.kindOf x2 = some .local)
    (hp : (env.scope.kind == .class || (env.scope.kind == .module && env.locals != env.globals)) = false)
    (h : wpAny (model prog w) A (eval iter env) (PLLoop prog w A h₀ env x1 x2 body Q E) E s)
    (hs : ∀ x, foldedSetIterable iter env x = pure x := by intro _; rfl)
    (hE : PassesOwn (model prog w) A env E := by passes_own) :
    wpAny (model prog w) A (exec (.For (.Tuple [.Name x1 p1, .Name x2 p2] kk pt) iter body [] pos) env) Q E s := by
  refine wpAny_For (wpAny_mono h (fun xv s₁ h₁ => ?_) fun _ _ e => e) hs
  obtain ⟨l, vs, nn, ds, m, frozen, news, J, rfl, hl, hd, F, N, hfz, hj, turn, done⟩ := h₁
  have hlen : vs.length = ds.length := hd.length
  have hol : s₁.heap.get? l = some (listOf vs.toArray nn) := (N _ (hfz _ _ _ hj _ hl)).1
  have hls : s₁.heap.IsList l vs.toArray := ⟨_, hol, rfl, nn, rfl⟩
  have hlI : l ≠ s₁.heap.objs.size := Nat.ne_of_lt (Heap.lt_size hol)
  refine wpAny_pyIter_list hls ?_
  have hI0 : h₀.get? s₁.heap.objs.size = none := next_is_new F
  have hLI : env.locals ≠ s₁.heap.objs.size := Nat.ne_of_lt F.ns.lt
  refine codeAny_forLoop_any (R := fun r s' => match r with | .ok f => Q f s' | .error e => cameBackBy (model prog w) A env E e s')
    (fun k s' => ∃ h' tk m' nx i, s' = { s₁ with heap := h', toks := tk } ∧ h'.IsListIter s₁.heap.objs.size l i ∧ Fr h₀ env.locals h' m' ∧ News h₀ env.locals h' nx ∧ (∀ p ∈ nx, p.1 ≠ s₁.heap.objs.size) ∧ J i m' nx ∧ i ≤ ds.length ∧ k = ds.length + 1 - i) ?_ (ds.length + 1)
    ⟨_, _, m, news, 0, rfl, ⟨_, Heap.get?_push_size _ rfl, rfl, rfl⟩, F.push _, (fun p hp => ⟨Heap.get?_push_of_some _ (N p hp).1, (N p hp).2⟩), (fun p hp => Nat.ne_of_lt (Heap.lt_size (N p hp).1)), hj, Nat.zero_le _, rfl⟩
  rintro k s' ⟨H, tk, m', nx, i, rfl, hit, F', N', hnx, hJ, hi, rfl⟩
  have hl' : H.IsList l vs.toArray := ⟨_, (N' _ (hfz _ _ _ hJ _ hl)).1, rfl, nn, rfl⟩
  have oldNe : ∀ b o, h₀.get? b = some o → b ≠ s₁.heap.objs.size := fun b o e q => by rw [q, hI0] at e; cases e
  by_cases hlt : i < ds.length
  · obtain ⟨v, hv, hD⟩ := hd.get hlt
    have hD' := List.getElem?_eq_getElem hlt
    generalize ds[i]'hlt = q at hD hD'
    obtain @⟨ad, kk', t', v', pv', ha, hV⟩ := hD
    refine wpAny_pyNext_list_item hit hl' (x := .ref _) (by simpa using hv) fun h₁ hit₁ hs₁ => ?_
    replace hs₁ : Heap.SameBut s₁.heap.objs.size H h₁ := hs₁
    refine wpAny_letOwnedTupleGo_listiter hit₁ ?_
    have N₁ : News h₀ env.locals h₁ nx := fun p hp => ⟨hs₁.extBut _ _ (hnx p hp) (N' p hp).1, (N' p hp).2⟩
    have F₁ : Fr h₀ env.locals h₁ m' := ⟨F'.ns.extBut hs₁.extBut hLI, fun b o e => hs₁.extBut b o (oldNe b o e) (F'.keep b o e), F'.above⟩
    have htup : h₁.IsTuple _ #[.int kk' t', v'] := ⟨_, (N₁ _ (hfz _ _ _ hJ _ ha)).1, rfl, _, rfl⟩
    refine wpAny_assign_Tuple hh htup rfl rfl fun h₂ hx₂ => ?_
    replace hx₂ : Heap.ExtBut h₁.objs.size h₁ h₂ := hx₂
    have up₂ : ∀ b o, h₁.get? b = some o → h₂.get? b = some o := fun b o x => hx₂ b o (Nat.ne_of_lt (Heap.lt_size x)) x
    have F₂ : Fr h₀ env.locals h₂ m' := F₁.keeps up₂
    have N₂ : News h₀ env.locals h₂ nx := N₁.grown up₂
    show wpAny _ A (do holding [v'] (assign (.Name x1 p1) env (.int kk' t')); do holding [] (assign (.Name x2 p2) env v'); pure ()) _ _ _
    refine wpAny_bind (wpAny_holding (wpAny_assign_Name (wpAny_storeName_local hx1 F₂.ns (fun h₃ hn₃ hs₃ => ?_) hp)))
    replace hs₃ : Heap.SameBut env.locals h₂ h₃ := hs₃
    have F₃ := F₂.set hn₃ hs₃
    refine wpAny_bind (wpAny_holding (wpAny_assign_Name (wpAny_storeName_local hx2 F₃.ns (fun h₄ hn₄ hs₄ => wpAny_pure ?_) hp)))
    replace hs₄ : Heap.SameBut env.locals h₃ h₄ := hs₄
    have F₄ := F₃.set hn₄ hs₄
    have N₄ : News h₀ env.locals h₄ nx := (N₂.set hs₃).set hs₄
    have up₄ : ∀ b o, b ≠ env.locals → h₁.get? b = some o → h₄.get? b = some o := fun b o hb x => hs₄.extBut b o hb (hs₃.extBut b o hb (up₂ b o x))
    obtain ⟨oI, hoI, hcI, hdI⟩ := hit₁
    have hoI₄ := up₄ _ _ (Ne.symm hLI) hoI
    have Nown : News h₀ env.locals h₄ (nx ++ [(s₁.heap.objs.size, oI)]) := fun p hp => by
      rcases List.mem_append.mp hp with hp | hp
      · exact N₄ p hp
      · rw [List.mem_singleton.mp hp]; exact ⟨hoI₄, Ne.symm hLI, hI0⟩
    have hoff : OwnOff [(s₁.heap.objs.size, oI)] (nx.map (·.1)) := by
      intro p hp b hb e
      obtain ⟨q, hq, rfl⟩ := List.mem_map.mp hb
      rw [List.mem_singleton.mp hp] at e
      exact hnx q hq e.symm
    refine wpAny_passesOwn hE (wpAny_mono (turn i kk' t' v' pv' m' nx h₄ _ [(s₁.heap.objs.size, oI)] hD' hV hoff hJ F₄ Nown) (fun f s₂ p => ?_) fun _ _ e => e)
    have fin : InvEndG h₀ env.locals (J (i + 1)) [(s₁.heap.objs.size, oI)] { s₁ with heap := h₄, toks := tk + 1 + 1 } s₂ → ∃ m_1, m_1 < ds.length + 1 - i ∧ ∃ h' tk m' nx i, s₂ = { s₁ with heap := h', toks := tk } ∧ h'.IsListIter s₁.heap.objs.size l i ∧ Fr h₀ env.locals h' m' ∧ News h₀ env.locals h' nx ∧ (∀ p ∈ nx, p.1 ≠ s₁.heap.objs.size) ∧ J i m' nx ∧ i ≤ ds.length ∧ m_1 = ds.length + 1 - i := by
      rintro ⟨h', tk', m'', news', nx', e, F'', N'', hn, ho, ha', hm⟩
      refine ⟨ds.length + 1 - (i + 1), by omega, h', tk', m'', nx', i + 1, e, ⟨oI, (N'' _ (ho _ (List.mem_singleton.mpr rfl))).1, hcI, hdI⟩, F'', fun p hp => N'' p (hn p hp), fun p hp e => ?_, hm, hlt, rfl⟩
      exact ha' _ (List.mem_singleton.mpr rfl) p.1 (List.mem_map.mpr ⟨p, hp, rfl⟩) e.symm
    cases f with
    | ret v => exact p
    | brk => exact p
    | next => exact fin p
    | cont => exact fin p
  · have hin : i = ds.length := by omega
    subst hin
    refine wpAny_pyNext_list_end hh hit hl' (by simp [hlen]) fun h₁ he₁ => wpAny_execs_nil ?_
    exact done m' nx h₁ _ hJ ⟨F'.ns.extBut he₁ hLI, fun b o e => he₁ b o (oldNe b o e) (F'.keep b o e), F'.above⟩ fun p hp => ⟨he₁ _ _ (hnx p hp) (N' p hp).1, (N' p hp).2⟩
end
theorem drop_news {h₀ h : Heap} {L : Addr} {news news' : Led} (N : News h₀ L h news') (hs : ∀ p ∈ news, p ∈ news') : News h₀ L h news := fun p hp => N p (hs p hp)
section
variable {prog : Program} {w : World} {p : Program} {loose : List PySem.Str} {mean : ExcName → Option Value} {mg mb : PySem.Str → Option Value} {c : Nat} {f : Addr} {vs : List Value} {news : Led}
theorem TlV.use {Out : Value → Prop} {dp un : Nat} {cn : PySem.Str} {cs : Scope} {a : Addr} {ccd : Value} {cl : List (PySem.Str × Addr)} {outer : List Env} {A₀ : Around} {base h₀ : Heap} {L : Addr} {m : PySem.Str → Option Value} {s : Shared} {Q E : Value → Shared → Prop}
    (C : TlV prog w p loose mean mg mb c f vs news Out) (B : Below A₀ base outer h₀) (F : Fr h₀ L s.heap m) (X : (Mine.hd.heap_39 w.params).In h₀) (N : News h₀ L s.heap news) (T : Top p loose mean mg mb h₀) (hk : cs.kind = .function) (hd : dp + c < recursionLimit) (hu : un + 10 * c < cLine)
    (ret : ∀ r h' tk', Fr h₀ L h' m → News h₀ L h' news → Out r → Q r { s with heap := h', toks := tk' }) :
    wpAny (model prog w) (ktrTop dp un (some []) cn cs L a ccd cl outer) (call (.ref f) vs) Q E s := C _ _ _ _ _ _ _ _ _ _ _ _ _ _ _ _ B F X N T hk hd hu ret
theorem Tl.use {L0 : Led} {Out : Led → Value → Prop} {dp un : Nat} {cn : PySem.Str} {cs : Scope} {a : Addr} {ccd : Value} {cl : List (PySem.Str × Addr)} {outer : List Env} {A₀ : Around} {base h₀ : Heap} {L : Addr} {m : PySem.Str → Option Value} {s : Shared} {Q E : Value → Shared → Prop}
    (C : Tl prog w p loose mean mg mb c f vs L0 news Out) (hs : ∀ p ∈ L0, p ∈ news) (B : Below A₀ base outer h₀) (F : Fr h₀ L s.heap m) (X : (Mine.hd.heap_39 w.params).In h₀) (N : News h₀ L s.heap news) (T : Top p loose mean mg mb h₀) (hk : cs.kind = .function) (hd : dp + c < recursionLimit) (hu : un + 10 * c < cLine)
    (ret : ∀ r tl h' tk', Fr h₀ L h' m → News h₀ L h' (tl ++ news) → Above news tl → Out (tl ++ L0) r → Q r { s with heap := h', toks := tk' }) :
    wpAny (model prog w) (ktrTop dp un (some []) cn cs L a ccd cl outer) (call (.ref f) vs) Q E s   := C hs _ _ _ _ _ _ _ _ _ _ _ _ _ _ _ _ B F X N T hk hd hu ret
end
/-- what a call's contract asks of the place of the call -/
structure Bun (w : World) (p : Program) (loose : List PySem.Str) (mean : ExcName → Option Value) (mg mb : PySem.Str → Option Value) (c dp un : Nat) (cs : Scope) (outer : List Env) (A₀ : Around) (base h₀ : Heap) (L : Addr) (m : PySem.Str → Option Value) (s : Shared) (news : Led) : Prop where
  B : Below A₀ base outer h₀
  F : Fr h₀ L s.heap m
  X : (Mine.hd.heap_39 w.params).In h₀
  N : News h₀ L s.heap news
  T : Top p loose mean mg mb h₀
  hk : cs.kind = .function
  hd : dp + c < recursionLimit
  hu : un + 10 * c < cLine
section
variable {prog : Program} {w : World} {p : Program} {loose : List PySem.Str} {mean : ExcName → Option Value} {mg mb : PySem.Str → Option Value} {c : Nat} {f : Addr} {vs : List Value} {news : Led}
theorem TlV.use2 {Out : Value → Prop} {dp un : Nat} {cn : PySem.Str} {cs : Scope} {a : Addr} {ccd : Value} {cl : List (PySem.Str × Addr)} {outer : List Env} {A₀ : Around} {base h₀ : Heap} {L : Addr} {m : PySem.Str → Option Value} {s : Shared} {Q E : Value → Shared → Prop}
    (C : TlV prog w p loose mean mg mb c f vs news Out) (K : Bun w p loose mean mg mb c dp un cs outer A₀ base h₀ L m s news)
    (ret : ∀ r h' tk', Fr h₀ L h' m → News h₀ L h' news → Out r → Q r { s with heap := h', toks := tk' }) :
    wpAny (model prog w) (ktrTop dp un (some []) cn cs L a ccd cl outer) (call (.ref f) vs) Q E s := C.use K.B K.F K.X K.N K.T K.hk K.hd K.hu ret
theorem Tl.use2 {L0 : Led} {Out : Led → Value → Prop} {dp un : Nat} {cn : PySem.Str} {cs : Scope} {a : Addr} {ccd : Value} {cl : List (PySem.Str × Addr)} {outer : List Env} {A₀ : Around} {base h₀ : Heap} {L : Addr} {m : PySem.Str → Option Value} {s : Shared} {Q E : Value → Shared → Prop}
    (C : Tl prog w p loose mean mg mb c f vs L0 news Out) (hs : ∀ p ∈ L0, p ∈ news) (K : Bun w p loose mean mg mb c dp un cs outer A₀ base h₀ L m s news)
    (ret : ∀ r tl h' tk', Fr h₀ L h' m → News h₀ L h' (tl ++ news) → Above news tl → Out (tl ++ L0) r → Q r { s with heap := h', toks := tk' }) :
    wpAny (model prog w) (ktrTop dp un (some []) cn cs L a ccd cl outer) (call (.ref f) vs) Q E s := C.use hs K.B K.F K.X K.N K.T K.hk K.hd K.hu ret
end
theorem PL.at {news news' : Led} {v : Value} {ds : List (Int × PV)} (h : PL news v ds) (hs : ∀ p ∈ news, p ∈ news') : PL news' v ds := h.mono hs
theorem sub_refl {a : Led} : ∀ p ∈ a, p ∈ a := fun _ h => h
theorem sub_right {a b c : Led} (h : ∀ p ∈ a, p ∈ c) : ∀ p ∈ a, p ∈ b ++ c := fun p hp => List.mem_append_right _ (h p hp)
theorem sub_left {a b c : Led} (h : ∀ p ∈ a, p ∈ b) : ∀ p ∈ a, p ∈ b ++ c := fun p hp => List.mem_append_left _ (h p hp)
theorem sub_cons {a c : Led} {x : Addr × Obj} (h : ∀ p ∈ a, p ∈ c) : ∀ p ∈ a, p ∈ x :: c := fun p hp => .tail _ (h p hp)

theorem above_one {news : Led} {D : Addr} {o : Obj} (h : ∀ p ∈ news, p.1 < D) : Above news [(D, o)] := by
  intro q hq p hp
  rw [List.mem_singleton.mp hp]
  exact Nat.ne_of_lt (h q hq)
theorem above_nil {news : Led} : Above news [] := fun _ _ _ h => nomatch h
theorem above_cons' {news tl : Led} {D : Addr} {o : Obj} (h : ∀ p ∈ news, p.1 < D) (ht : Above news tl) : Above news ((D, o) :: tl) := by
  intro q hq p hp
  rcases List.mem_cons.mp hp with rfl | hp
  · exact Nat.ne_of_lt (h q hq)
  · exact ht q hq p hp
theorem above_ne {news tl : Led} {D : Addr} {o : Obj} (h : ∀ p ∈ news, p.1 ≠ D) (ht : Above news tl) : Above news ((D, o) :: tl) := by
  intro q hq p hp
  rcases List.mem_cons.mp hp with rfl | hp
  · exact h q hq
  · exact ht q hq p hp
theorem lt_sub {a b : Led} {D : Addr} (h : ∀ p ∈ b, p.1 < D) (hs : ∀ p ∈ a, p ∈ b) : ∀ p ∈ a, p.1 < D := fun p hp => h p (hs p hp)
theorem ne_sub {a b : Led} {D : Addr} (h : ∀ p ∈ b, p.1 ≠ D) (hs : ∀ p ∈ a, p ∈ b) : ∀ p ∈ a, p.1 ≠ D := fun p hp => h p (hs p hp)
theorem off1_ne {D : Addr} : ∀ {news : Led}, LCg.Off1 D news → ∀ p ∈ news, p.1 ≠ D
  | [], _, _, h => nomatch h
  | q :: r, h, p, hp => by
    rcases List.mem_cons.mp hp with rfl | hp
    · exact h.1
    · exact off1_ne h.2 p hp
theorem above_app {news tl tl2 : Led} (h : Above (tl ++ news) tl2) (ht : Above news tl) : Above news (tl2 ++ tl) := by
  intro q hq p hp
  rcases List.mem_append.mp hp with hp | hp
  · exact h q (List.mem_append_right _ hq) p hp
  · exact ht q hq p hp
theorem PairsIn.append {news : Led} {vs ws : List Value} {ds es : List (Int × PV)} (h : PairsIn news vs ds) (h2 : PairsIn news ws es) : PairsIn news (vs ++ ws) (ds ++ es) := by
  induction h with
  | nil => exact h2
  | cons hp _ ih => exact .cons hp ih
theorem PairsIn.take {news : Led} {vs : List Value} {ds : List (Int × PV)} (h : PairsIn news vs ds) : ∀ i : Nat, PairsIn news (vs.take i) (ds.take i) := by
  induction h with
  | nil => intro i; simp; exact .nil
  | cons hp _ ih =>
    intro i
    cases i with
    | zero => exact .nil
    | succ i => exact .cons hp (ih i)
theorem PairsIn.drop {news : Led} {vs : List Value} {ds : List (Int × PV)} (h : PairsIn news vs ds) : ∀ i : Nat, PairsIn news (vs.drop i) (ds.drop i) := by
  induction h with
  | nil => intro i; simp; exact .nil
  | cons hp hr ih =>
    intro i
    cases i with
    | zero => exact .cons hp hr
    | succ i => exact ih i
theorem pick_take {vs : List Value} {i : Nat} : kms_pick vs none (some (i : Int)) = vs.take i := by
  unfold kms_pick kms_lo kms_hi
  have h : ¬ ((i : Int) < 0) := by omega
  simp only [if_neg h, List.drop_zero, Nat.sub_zero, Int.toNat_natCast]
  rw [kmk_take_min]
theorem pick_drop {vs : List Value} {i : Nat} : kms_pick vs (some ((i : Int) + 1)) none = vs.drop (i + 1) := by
  unfold kms_pick kms_lo kms_hi
  have h : ¬ ((i : Int) + 1 < 0) := by omega
  have e : ((i : Int) + 1).toNat = i + 1 := by omega
  simp only [if_neg h, e]
  rw [kmk_drop_min, List.take_of_length_le]
  rw [List.length_drop]; omega
section
variable {prog : Program} {w : World} {A : Around} {E : Value → Shared → Prop} {s : Shared} {h₀ : Heap} {L l b : Addr} {m : PySem.Str → Option Value} {news : Led}
theorem pl_add {vs ws : List Value} {n1 n2 : Nat} {Q : Value → Shared → Prop} (F : Fr h₀ L s.heap m) (N : News h₀ L s.heap news) (hm1 : (l, listOf vs.toArray n1) ∈ news) (hm2 : (b, listOf ws.toArray n2) ∈ news) (hsz : vs.length + ws.length ≤ 10000)
    (h : ∀ D h', Fr h₀ L h' m → News h₀ L h' ((D, listOf (vs ++ ws).toArray 0) :: news) → (∀ p ∈ news, p.1 < D) → Q (.ref D) { s with heap := h' }) :
    wpAny (model prog w) A (binaryOp .Add (.ref l) (.ref b)) Q E s := by
  have hl : s.heap.IsList l vs.toArray := ⟨_, (N _ hm1).1, rfl, _, rfl⟩
  have hb : s.heap.IsList b ws.toArray := ⟨_, (N _ hm2).1, rfl, _, rfl⟩
  refine add_arrays F N hl hb (fun h' F' N' => h _ h' F' (by simpa using N') fun p hp => Heap.lt_size (N p hp).1) ?_
  rw [List.size_toArray, List.size_toArray]
  exact Nat.le_trans hsz (by decide)
end

section
variable {prog : Program} {w : World} {A : Around} {s : Shared} {h₀ : Heap} {L : Addr} {m : PySem.Str → Option Value} {env : Env}
/-- what a comprehension with a test picks -/
def sel (tst : Nat → Bool) (val : Nat → Value) : Nat → Nat → List Value
  | 0, _ => []
  | k + 1, i => (if tst i then [val i] else []) ++ sel tst val k (i + 1)
theorem comp_filter {ct elt : Expr} {x : PySem.Str} {scope : Scope} {cl : List (PySem.Str × Addr)} {S : Led → Prop} {P : Nat → Value → Prop} {Fin : List Value → Led → Prop} {news : Led} (tst : Nat → Bool) (val : Nat → Value) (n : Nat)
    (hS : S news)
    (ht : ∀ i v I oI C oC D ys m₂ h tk (E' : Value → Shared → Prop) (Q' : Bool → Shared → Prop), i < n → P i v → LCg.NsObj oC m₂ → m₂ x = some v → Fr h₀ L h m → News h₀ L h ((I, oI) :: (C, oC) :: (D, LCg.lst ys) :: news) → (∀ tk', Q' (tst i) { s with heap := h, toks := tk' }) →
      wpAny (model prog w) A (isTrue ct (compEnvC scope cl C env) (eval ct (compEnvC scope cl C env))) Q' E' { s with heap := h, toks := tk })
    (he : ∀ i v I oI C oC D ys m₂ h tk (E' : Value → Shared → Prop) (Q' : Value → Shared → Prop), i < n → P i v → LCg.NsObj oC m₂ → m₂ x = some v → Fr h₀ L h m → News h₀ L h ((I, oI) :: (C, oC) :: (D, LCg.lst ys) :: news) → tst i = true → (∀ tk', Q' (val i) { s with heap := h, toks := tk' }) →
      wpAny (model prog w) A (eval elt (compEnvC scope cl C env)) Q' E' { s with heap := h, toks := tk }) :
    ∀ k i ys, i + k = n → Fin (ys ++ sel tst val k i) news → LCt.CompRestT prog w A h₀ L m env ct elt x scope cl s S P Fin k i ys news
  | 0, i, ys, _, hf => by
    refine LCt.CompRestT.zero ?_
    simpa [sel] using hf
  | k + 1, i, ys, hk, hf => by
    refine LCt.CompRestT.succ ?_
    intro v I oI C oC D m₂ h tk E' hP hC hx F N off ne
    refine ht i v I oI C oC D ys m₂ h tk E' _ (by omega) hP hC hx F N fun tk' => ?_
    cases htst : tst i with
    | true =>
      simp only [if_true]
      refine he i v I oI C oC D ys m₂ h tk' E' _ (by omega) hP hC hx F N htst fun tk'' => ?_
      refine LCg.CompEnd.intro (s₁ := { s with heap := h, toks := tk }) F N news (fun _ h => h) off hS ?_
      refine comp_filter tst val n hS ht he k (i + 1) (ys ++ [val i]) (by omega) ?_
      have : sel tst val (k + 1) i = [val i] ++ sel tst val k (i + 1) := by simp [sel, htst]
      rw [this, ← List.append_assoc] at hf
      exact hf
    | false =>
      simp only [Bool.false_eq_true, if_false]
      refine LCg.CompEnd.intro (s₁ := { s with heap := h, toks := tk }) F N news (fun _ h => h) off hS ?_
      refine comp_filter tst val n hS ht he k (i + 1) ys (by omega) ?_
      have : sel tst val (k + 1) i = sel tst val k (i + 1) := by simp [sel, htst]
      rw [this] at hf
      exact hf
end

theorem sel_pairs {led : Led} {vs : List Value} {ds : List (Int × PV)} (h : PairsIn led vs ds) (f : Int × PV → Bool) : ∀ k i, i + k = vs.length → PairsIn led (sel (fun i => f (ds[i]?.getD (0, .bool true))) (fun i => vs[i]?.getD .none) k i) ((ds.drop i).filter f)
  | 0, i, hi => by
    have : ds.length ≤ i := by rw [← h.length]; omega
    rw [List.drop_of_length_le this]
    exact .nil
  | k + 1, i, hi => by
    have hi' : i < ds.length := by rw [← h.length]; omega
    obtain ⟨v, hv, hD⟩ := h.get hi'
    have hd := List.getElem?_eq_getElem hi'
    have ih := sel_pairs h f k (i + 1) (by omega)
    rw [List.drop_eq_getElem_cons hi', List.filter_cons]
    show PairsIn led ((if f (ds[i]?.getD (0, .bool true)) then [vs[i]?.getD .none] else []) ++ _) _
    rw [hd, Option.getD_some, hv, Option.getD_some]
    cases f ds[i] with
    | true => exact .cons hD ih
    | false => exact ih
theorem PL.sel {led : Led} {vs : List Value} {ds : List (Int × PV)} (h : PairsIn led vs ds) (f : Int × PV → Bool) {D : Addr} {n : Nat} (hm : (D, listOf (sel (fun i => f (ds[i]?.getD (0, .bool true))) (fun i => vs[i]?.getD .none) vs.length 0).toArray n) ∈ led) : PL led (.ref D) (ds.filter f) := by
  have := sel_pairs h f vs.length 0 (by omega)
  rw [List.drop_zero] at this
  exact .mk hm this

/-! plain words -/
theorem mem_sub {x : Addr × Obj} {a b : Led} (h : x ∈ a) (hs : ∀ p ∈ a, p ∈ b) : x ∈ b := hs x h
theorem find_done {d : List (Int × PV)} {k : Int} (hno : ∀ j, j < d.length → (d[j]?.map (·.1)) ≠ some k) : d.lookup k = none := by
  induction d with
  | nil => rfl
  | cons q r ih =>
    obtain ⟨kk, pv⟩ := q
    have h0 : kk ≠ k := by simpa using hno 0 (by simp)
    have e : (k == kk) = false := by simpa using Ne.symm h0
    rw [List.lookup_cons, e]
    exact ih fun j hj => by simpa using hno (j + 1) (by simpa using hj)
theorem find_at {k : Int} {pv : PV} : ∀ {d : List (Int × PV)} {i : Nat}, d[i]? = some (k, pv) → (∀ j, j < i → (d[j]?.map (·.1)) ≠ some k) → d.lookup k = some pv
  | [], i, h, _ => by simp at h
  | (kk, pv') :: r, 0, h, _ => by simp at h; obtain ⟨rfl, rfl⟩ := h; simp [List.lookup_cons]
  | (kk, pv') :: r, i + 1, h, hno => by
    have h0 : kk ≠ k := by simpa using hno 0 (by omega)
    have e : (k == kk) = false := by simpa using Ne.symm h0
    rw [List.lookup_cons, e]
    exact find_at (i := i) (by simpa using h) fun j hj => by simpa using hno (j + 1) (by omega)
theorem find_more {d : List (Int × PV)} {k : Int} {i : Nat} {kk : Int} {pv : PV} (h : d[i]? = some (kk, pv)) (e : kk ≠ k) (hno : ∀ j, j < i → (d[j]?.map (·.1)) ≠ some k) : ∀ j, j < i + 1 → (d[j]?.map (·.1)) ≠ some k := by
  intro j hj
  rcases Nat.lt_succ_iff_lt_or_eq.mp hj with hj | rfl
  · exact hno j hj
  · rw [h]; simpa using e
/-- what plist_find answers -/
def FindOut (d : List (Int × PV)) (k : Int) (r : Value) : Prop :=
  (∃ t, r = .int (-1) t ∧ d.lookup k = none) ∨ ∃ t i pv, r = .int ((i : Nat) : Int) t ∧ i < d.length ∧ d[i]? = some (k, pv) ∧ d.lookup k = some pv ∧ ∀ j, j < i → (d[j]?.map (·.1)) ≠ some k
def withP : List (Int × PV) → Int → PV → List (Int × PV)
  | [], k, v => [(k, v)]
  | (k', v') :: r, k, v => if k' = k then (k, v) :: r else (k', v') :: withP r k v
theorem withP_none {k : Int} {v : PV} : ∀ {d : List (Int × PV)}, d.lookup k = none → d ++ [(k, v)] = withP d k v
  | [], _ => rfl
  | (k', v') :: r, h => by
    rw [List.lookup_cons] at h
    by_cases e : k' = k
    · subst e; simp at h
    · have e' : (k == k') = false := by simpa using Ne.symm e
      rw [e'] at h
      show (k', v') :: (r ++ [(k, v)]) = if k' = k then (k, v) :: r else (k', v') :: withP r k v
      rw [if_neg e, withP_none h]
theorem withP_at {k : Int} {v pv : PV} : ∀ {d : List (Int × PV)} {i : Nat}, d[i]? = some (k, pv) → (∀ j, j < i → (d[j]?.map (·.1)) ≠ some k) → d.take i ++ (k, v) :: d.drop (i + 1) = withP d k v
  | [], i, h, _ => by simp at h
  | (kk, pv') :: r, 0, h, _ => by simp at h; obtain ⟨rfl, rfl⟩ := h; simp [withP]
  | (kk, pv') :: r, i + 1, h, hno => by
    have h0 : kk ≠ k := by simpa using hno 0 (by omega)
    have ih := withP_at (v := v) (d := r) (i := i) (by simpa using h) fun j hj => by simpa using hno (j + 1) (by omega)
    simp only [withP, if_neg h0, ← ih, List.take_succ_cons, List.drop_succ_cons, List.cons_append]
def holdsP (d : List (Int × PV)) (k : Int) (pv : PV) : Bool := match d.lookup k with
  | some q => q.eqv pv
  | none => false
def sameP (a b : List (Int × PV)) : Bool := decide (a.length = b.length) && a.all fun q => holdsP b q.1 q.2
theorem all_stop {α : Type} {f : α → Bool} {d : List α} {i : Nat} {q : α} (h : d[i]? = some q) (e : f q = false) : d.all f = false := by
  rw [List.all_eq_false]
  exact ⟨q, List.mem_of_getElem? h, by simp [e]⟩
theorem all_more {α : Type} {f : α → Bool} {d : List α} {i : Nat} {q : α} (h : d[i]? = some q) (e : f q = true) (hall : ∀ j x, j < i → d[j]? = some x → f x = true) : ∀ j x, j < i + 1 → d[j]? = some x → f x = true := by
  intro j x hj hx
  rcases Nat.lt_succ_iff_lt_or_eq.mp hj with hj | rfl
  · exact hall j x hj hx
  · rw [h] at hx; cases hx; exact e
theorem all_done {α : Type} {f : α → Bool} {d : List α} (hall : ∀ j x, j < d.length → d[j]? = some x → f x = true) : d.all f = true := by
  rw [List.all_eq_true]
  intro x hx
  obtain ⟨j, hj, rfl⟩ := List.mem_iff_getElem.mp hx
  exact hall j _ hj (List.getElem?_eq_getElem hj)
def addedP (d more : List (Int × PV)) : List (Int × PV) := more.foldl (fun f q => if holdsP f q.1 q.2 then f else withP f q.1 q.2) d
theorem withP_len {k : Int} {v : PV} : ∀ d : List (Int × PV), (withP d k v).length ≤ d.length + 1
  | [] => by simp [withP]
  | (k', v') :: r => by
    have ih := withP_len (k := k) (v := v) r
    unfold withP
    split
    · simp
    · simp only [List.length_cons]; omega
theorem addedP_len (more : List (Int × PV)) : ∀ d : List (Int × PV), (addedP d more).length ≤ d.length + more.length := by
  induction more with
  | nil => intro d; simp [addedP]
  | cons q r ih =>
    intro d
    have h := ih (if holdsP d q.1 q.2 then d else withP d q.1 q.2)
    have e : addedP d (q :: r) = addedP (if holdsP d q.1 q.2 then d else withP d q.1 q.2) r := rfl
    rw [e]
    have : (if holdsP d q.1 q.2 then d else withP d q.1 q.2).length ≤ d.length + 1 := by
      split
      · omega
      · exact withP_len d
    simp only [List.length_cons]; omega
theorem addedP_take {d more : List (Int × PV)} {i : Nat} {k : Int} {v : PV} (h : more[i]? = some (k, v)) : addedP d (more.take (i + 1)) = if holdsP (addedP d (more.take i)) k v then addedP d (more.take i) else withP (addedP d (more.take i)) k v := by
  unfold addedP
  rw [List.take_add_one, h, List.foldl_append]
  rfl
end

section
open PySem PySem.W PyProof.Rows PySem.Calls PySem.Spec
set_option Elab.async false
theorem Above.sub {a b tl : Led} (h : Above b tl) (hs : ∀ p ∈ a, p ∈ b) : Above a tl := fun q hq p hp => h q (hs q hq) p hp
theorem off_app {own tl9 rest : Led} (h : Above (rest ++ own) tl9) (hoff : OwnOff own (rest.map (·.1))) : OwnOff own ((tl9 ++ rest).map (·.1)) := by
  intro p hp b hb
  obtain ⟨q, hq, rfl⟩ := List.mem_map.mp hb
  rcases List.mem_append.mp hq with hq | hq
  · exact h p (List.mem_append_right _ hp) q hq
  · exact hoff p hp _ (List.mem_map.mpr ⟨q, hq, rfl⟩)
theorem ne_lt {news : Led} {D : Addr} (h : ∀ p ∈ news, p.1 < D) : ∀ p ∈ news, p.1 ≠ D := fun p hp => Nat.ne_of_lt (h p hp)
section
variable {prog : Program} {w : World} {A : Around} {E : Value → Shared → Prop} {s : Shared} {h₀ : Heap} {L l : Addr} {m : PySem.Str → Option Value} {news : Led}
theorem pl_sorted {vs : List Value} {ns : List Int} {n : Nat} {Q : Value → Shared → Prop} (F : Fr h₀ L s.heap m) (N : News h₀ L s.heap news) (hm : (l, listOf vs.toArray n) ∈ news) (hI : IntsAre vs ns) (h64 : ns.length < 64)
    (h : ∀ D h' vs' ns' e, Fr h₀ L h' m → News h₀ L h' ((D, listOf (List.toArray vs') e) :: news) → (∀ p ∈ news, p.1 < D) → IntsAre vs' ns' → ns'.Perm ns → ns'.Pairwise (· ≤ ·) → Q (.ref D) { s with heap := h' }) :
    wpAny (model prog w) A (call (.builtin "sorted") [.ref l]) Q E s :=
  sorted_N F N ⟨_, (N _ hm).1, rfl, _, rfl⟩ hI (by rw [hI.length]; exact h64) fun h' vs' ns' e F' N' I' P' O' => h _ h' vs' ns' e F' N' (fun p hp => Nat.lt_succ_of_lt (Heap.lt_size (N p hp).1)) I' P' O'
end
theorem fr_out2 {h₀ h : Heap} {L : Addr} {m₀ m₁ : PySem.Str → Option Value} {x1 x2 : PySem.Str} (h1 : Same [x1, x2] m₀ m₁) (F : Fr h₀ L h m₁) :
    Fr h₀ L h (fun y => if y = x2 then m₁ x2 else if y = x1 then m₁ x1 else m₀ y) := by
  have e : (fun y => if y = x2 then m₁ x2 else if y = x1 then m₁ x1 else m₀ y) = m₁ := by
    funext y
    by_cases hy : y = x2
    · rw [if_pos hy, hy]
    · by_cases hy1 : y = x1
      · simp only [if_neg hy, if_pos hy1]; rw [hy1]
      · simp only [if_neg hy, if_neg hy1]; exact (h1 y (by simpa using ⟨hy1, hy⟩)).symm
  rw [e]; exact F
theorem fr_out1 {h₀ h : Heap} {L : Addr} {m₀ m₁ : PySem.Str → Option Value} {x : PySem.Str} (h1 : Same [x] m₀ m₁) (F : Fr h₀ L h m₁) :
    Fr h₀ L h (fun y => if y = x then m₁ x else m₀ y) := by
  have e : (fun y => if y = x then m₁ x else m₀ y) = m₁ := by
    funext y
    by_cases hy : y = x
    · rw [if_pos hy, hy]
    · simp only [if_neg hy]; exact (h1 y (by simpa using hy)).symm
  rw [e]; exact F
/-- the properties that are not alike, as they come -/
def chA (d e : List (Int × PV)) : List Int := (d.filter fun q => !holdsP e q.1 q.2).map (·.1)
def chB (d e : List (Int × PV)) : List Int := (e.filter fun q => (d.lookup q.1).isNone).map (·.1)
theorem chA_len (d e : List (Int × PV)) : (chA d e).length ≤ d.length := by
  unfold chA; rw [List.length_map]; exact List.length_filter_le ..
theorem chB_len (d e : List (Int × PV)) : (chB d e).length ≤ e.length := by
  unfold chB; rw [List.length_map]; exact List.length_filter_le ..
theorem chA_take {d e : List (Int × PV)} {i : Nat} {k : Int} {v : PV} (h : d[i]? = some (k, v)) : chA (d.take (i + 1)) e = if holdsP e k v then chA (d.take i) e else chA (d.take i) e ++ [k] := by
  unfold chA
  rw [List.take_add_one, h]
  simp only [Option.toList_some, List.filter_append, List.map_append]
  cases hh : holdsP e k v <;> simp [hh]
theorem chB_take {d e : List (Int × PV)} {i : Nat} {k : Int} {v : PV} (h : e[i]? = some (k, v)) : chB d (e.take (i + 1)) = if (d.lookup k).isNone then chB d (e.take i) ++ [k] else chB d (e.take i) := by
  unfold chB
  rw [List.take_add_one, h]
  simp only [Option.toList_some, List.filter_append, List.map_append]
  cases hh : (d.lookup k).isNone <;> simp [hh]
theorem IntsAre.snoc {vs : List Value} {ns : List Int} (h : IntsAre vs ns) (k : Int) (t : Tok) : IntsAre (vs ++ [.int k t]) (ns ++ [k]) := by
  induction h with
  | nil => exact .cons k t .nil
  | cons n t' _ ih => exact .cons n t' ih
end

section
open PySem PySem.W PyProof.Rows PySem.Calls PySem.Spec
set_option Elab.async false
section
variable {prog : Program} {w : World} {A : Around} {s : Shared} {h₀ : Heap} {L : Addr} {m : PySem.Str → Option Value} {env : Env}
theorem comp_pairs {elt : Expr} {x x₂ : PySem.Str} {scope : Scope} {cl : List (PySem.Str × Addr)} {S : Led → Prop} {Fin : List Value → Led → Prop} {news : Led} {vs : List Value} {ds : List (Int × PV)}
    (hS : S news) (hp : PairsIn news vs ds)
    (he : ∀ (i : Nat) k t v pv I oI C oC D ys m₂ h tk (E' : Value → Shared → Prop) (Q' : Value → Shared → Prop), ds[i]? = some (k, pv) → VIs v pv → LCg.NsObj oC m₂ → m₂ x = some (.int k t) → m₂ x₂ = some v → Fr h₀ L h m → News h₀ L h ((I, oI) :: (C, oC) :: (D, LCg.lst ys) :: news) → (∀ tk', Q' (.int k t) { s with heap := h, toks := tk' }) →
      wpAny (model prog w) A (eval elt (compEnvC scope cl C env)) Q' E' { s with heap := h, toks := tk })
    (hf : ∀ ys, IntsAre ys (ds.map (·.1)) → Fin ys news) :
    ∀ k i ys, i + k = vs.length → IntsAre ys ((ds.take i).map (·.1)) → LCp.CompRestP prog w A h₀ L m env elt x x₂ scope cl s S (fun i v => vs.toArray[i]? = some v) Fin k i ys news
  | 0, i, ys, hk, hi => by
    refine LCp.CompRestP.zero (hf ys ?_)
    have : ds.length ≤ i := by rw [← hp.length]; omega
    rw [List.take_of_length_le this] at hi
    exact hi
  | k + 1, i, ys, hk, hi => by
    have hi' : i < ds.length := by rw [← hp.length]; omega
    refine LCp.CompRestP.succ ?_
    intro v hv
    obtain ⟨v', hv', hD⟩ := hp.get hi'
    have hv2 : v' = v := by simpa [hv'] using hv
    subst hv2
    have hD' := List.getElem?_eq_getElem hi'
    generalize ds[i]'hi' = q at hD hD'
    obtain @⟨ad, kk', t', v', pv', ha, hV⟩ := hD
    refine ⟨ad, _, _, _, 0, rfl, ha, rfl, rfl, ?_⟩
    intro I oI C oC D m₂ h tk E' hC hx hy F N off ne
    refine he i kk' t' v' pv' I oI C oC D ys m₂ h tk E' _ hD' hV hC hx hy F N fun tk' => ?_
    refine LCg.CompEnd.intro (s₁ := { s with heap := h, toks := tk }) F N news (fun _ h => h) off hS ?_
    refine comp_pairs hS hp he hf k (i + 1) _ (by omega) ?_
    rw [List.take_add_one, hD']
    simpa using IntsAre.snoc hi kk' t'
end
end

section
open PySem PySem.W PyProof.Rows PySem.Calls PySem.Spec
set_option Elab.async false
/-- the deck: the script's ints, how many were drawn -/
abbrev deckO (sl : Addr) (c : Int) (t : Tok) (n : Nat) : Obj := listOf [Value.ref sl, Value.int c t].toArray n
/-- a call that draws at most j times and hands back a plain value -/
def TlDV (prog : Program) (w : World) (p : Program) (loose : List PySem.Str) (mean : ExcName → Option Value) (mg mb : PySem.Str → Option Value) (cc : Nat) (f : Addr) (vs : List Value) (dk sl : Addr) (j : Int) (news : Led) (Out : Value → Prop) : Prop :=
  ∀ (c : Int) (t : Tok) (n : Nat) (us : List Value) (ns : List Int) (un' : Nat) (dp un : Nat) (cn : PySem.Str) (cs : Scope) (a : Addr) (ccd : Value) (cl : List (PySem.Str × Addr)) (outer : List Env) (A₀ : Around) (base h₀ : Heap) (L : Addr) (m : PySem.Str → Option Value) (s : Shared) (Q E : Value → Shared → Prop),
    Below A₀ base outer h₀ → Fr h₀ L s.heap m → (Mine.hd.heap_39 w.params).In h₀ → News h₀ L s.heap ((dk, deckO sl c t n) :: news) → (∀ p ∈ news, p.1 ≠ dk) → (sl, listOf us.toArray un') ∈ news → IntsAre us ns → ns.length ≤ 60 → 0 ≤ c → c ≤ 1000 → Top p loose mean mg mb h₀ → cs.kind = .function → dp + cc < recursionLimit → un + 10 * cc < cLine →
    (∀ r h' tk' c' t' n', Fr h₀ L h' m → News h₀ L h' ((dk, deckO sl c' t' n') :: news) → 0 ≤ c' → c' ≤ c + j → Out r → Q r { s with heap := h', toks := tk' }) →
    wpAny (model prog w) (ktrTop dp un (some []) cn cs L a ccd cl outer) (call (.ref f) vs) Q E s
section
variable {prog : Program} {w : World} {p : Program} {loose : List PySem.Str} {mean : ExcName → Option Value} {mg mb : PySem.Str → Option Value} {cc : Nat} {f : Addr} {vs : List Value}
theorem TlDV.use {Out : Value → Prop} {dk sl : Addr} {j c : Int} {t : Tok} {n : Nat} {us : List Value} {ns : List Int} {un' : Nat} (pre : Led) {post : Led} {dp un : Nat} {cn : PySem.Str} {cs : Scope} {a : Addr} {ccd : Value} {cl : List (PySem.Str × Addr)} {outer : List Env} {A₀ : Around} {base h₀ : Heap} {L : Addr} {m : PySem.Str → Option Value} {s : Shared} {Q E : Value → Shared → Prop}
    (C : TlDV prog w p loose mean mg mb cc f vs dk sl j (pre ++ post) Out) (B : Below A₀ base outer h₀) (F : Fr h₀ L s.heap m) (X : (Mine.hd.heap_39 w.params).In h₀) (N : News h₀ L s.heap (pre ++ (dk, deckO sl c t n) :: post)) (hne : ∀ p ∈ pre ++ post, p.1 ≠ dk) (hsl : (sl, listOf us.toArray un') ∈ pre ++ post) (hI : IntsAre us ns) (hns : ns.length ≤ 60) (hc0 : 0 ≤ c) (hc1 : c ≤ 1000) (T : Top p loose mean mg mb h₀) (hk : cs.kind = .function) (hd : dp + cc < recursionLimit) (hu : un + 10 * cc < cLine)
    (ret : ∀ r h' tk' c' t' n', Fr h₀ L h' m → News h₀ L h' (pre ++ (dk, deckO sl c' t' n') :: post) → 0 ≤ c' → c' ≤ c + j → Out r → Q r { s with heap := h', toks := tk' }) :
    wpAny (model prog w) (ktrTop dp un (some []) cn cs L a ccd cl outer) (call (.ref f) vs) Q E s :=
  C _ _ _ _ _ _ _ _ _ _ _ _ _ _ _ _ _ _ _ _ _ _ B F X (fun q hq => N q (by
      rcases List.mem_cons.mp hq with rfl | hq
      · exact List.mem_append_right _ (.head _)
      · rcases List.mem_append.mp hq with hq | hq
        · exact List.mem_append_left _ hq
        · exact List.mem_append_right _ (.tail _ hq))) hne hsl hI hns hc0 hc1 T hk hd hu
    fun r h' tk' c' t' n' F' N' h1 h2 ho => ret r h' tk' c' t' n' F' (fun q hq => N' q (by
      rcases List.mem_append.mp hq with hq | hq
      · exact .tail _ (List.mem_append_left _ hq)
      · rcases List.mem_cons.mp hq with rfl | hq
        · exact .head _
        · exact .tail _ (List.mem_append_right _ hq))) h1 h2 ho
end
structure BunD (w : World) (p : Program) (loose : List PySem.Str) (mean : ExcName → Option Value) (mg mb : PySem.Str → Option Value) (cc dp un : Nat) (cs : Scope) (outer : List Env) (A₀ : Around) (base h₀ : Heap) (L : Addr) (m : PySem.Str → Option Value) (s : Shared) (pre post : Led) (dk sl : Addr) (c : Int) (t : Tok) (n : Nat) (us : List Value) (ns : List Int) (un' : Nat) : Prop where
  B : Below A₀ base outer h₀
  F : Fr h₀ L s.heap m
  X : (Mine.hd.heap_39 w.params).In h₀
  N : News h₀ L s.heap (pre ++ (dk, deckO sl c t n) :: post)
  hsl : (sl, listOf us.toArray un') ∈ pre ++ post
  hI : IntsAre us ns
  hns : ns.length ≤ 60
  hc0 : 0 ≤ c
  hc1 : c ≤ 1000
  hne : ∀ p ∈ pre ++ post, p.1 ≠ dk
  T : Top p loose mean mg mb h₀
  hk : cs.kind = .function
  hd : dp + cc < recursionLimit
  hu : un + 10 * cc < cLine
section
variable {prog : Program} {w : World} {p : Program} {loose : List PySem.Str} {mean : ExcName → Option Value} {mg mb : PySem.Str → Option Value} {cc : Nat} {f : Addr} {vs : List Value}
theorem TlDV.use2 {Out : Value → Prop} {dk sl : Addr} {j c : Int} {t : Tok} {n : Nat} {us : List Value} {ns : List Int} {un' : Nat} (pre : Led) {post : Led} {dp un : Nat} {cn : PySem.Str} {cs : Scope} {a : Addr} {ccd : Value} {cl : List (PySem.Str × Addr)} {outer : List Env} {A₀ : Around} {base h₀ : Heap} {L : Addr} {m : PySem.Str → Option Value} {s : Shared} {Q E : Value → Shared → Prop}
    (C : TlDV prog w p loose mean mg mb cc f vs dk sl j (pre ++ post) Out) (K : BunD w p loose mean mg mb cc dp un cs outer A₀ base h₀ L m s pre post dk sl c t n us ns un')
    (ret : ∀ r h' tk' c' t' n', Fr h₀ L h' m → News h₀ L h' (pre ++ (dk, deckO sl c' t' n') :: post) → 0 ≤ c' → c' ≤ c + j → Out r → Q r { s with heap := h', toks := tk' }) :
    wpAny (model prog w) (ktrTop dp un (some []) cn cs L a ccd cl outer) (call (.ref f) vs) Q E s :=
  TlDV.use pre C K.B K.F K.X K.N K.hne K.hsl K.hI K.hns K.hc0 K.hc1 K.T K.hk K.hd K.hu ret
end
theorem ne_fresh {l : Led} {D d : Addr} {o o' : Obj} (h : ∀ p ∈ l, p.1 < D) (hm : (d, o) ∈ l) : (D, o').1 ≠ d := Nat.ne_of_gt (h _ hm)
section
variable {prog : Program} {w : World} {A : Around} {E : Value → Shared → Prop} {s : Shared} {h₀ : Heap} {L D : Addr} {m : PySem.Str → Option Value} {news news' : Led} {vs ws : List Value} {n : Nat} {k : Int} {t : Tok} {v : Value}
theorem pl_set {Q : Unit → Shared → Prop} (F : Fr h₀ L s.heap m) (N : News h₀ L s.heap news) (U : Upd D (listOf vs.toArray n) (listOf ws.toArray n) news news') (h0 : 0 ≤ k) (h1 : k < vs.length) (hfit : k < 2 ^ 63) (e : vs.set k.toNat v = ws)
    (h : ∀ h', Fr h₀ L h' m → News h₀ L h' news' → Q () { s with heap := h' }) :
    wpAny (model prog w) A (setItem (.ref D) (.int k t) v) Q E s := by
  subst e
  obtain ⟨pre, post, rfl, rfl, a, b⟩ := U.split
  have z := N (D, listOf vs.toArray n) (List.mem_append.mpr (.inr (.head _)))
  have hs : vs.toArray.size = vs.length := List.size_toArray ..
  refine ki_setAt z.1 h0 hfit (by omega) (h _ (F.change (Heap.SameBut.update ..) z.2.1 z.2.2) (ki_turn _ N a b ?_ ?_))
  · show vs.toArray.setIfInBounds k.toNat v = (vs.set k.toNat v).toArray
    apply Array.toList_inj.mp
    simp
  · simp
theorem any_item {value slice : PySem.Expr} {l : Addr} {us : List Value} {n : Nat} {k : Int} {u : Tok} {Q : Value → Shared → Prop} (N : News h₀ L s.heap news) (hm : (l, listOf us.toArray n) ∈ news)
    (h0 : 0 ≤ k) (h1 : k < (us.length : Int)) (hfit : us.length ≤ 1000)
    (h : ∀ v, us[k.toNat]? = some v → v ∈ us → Q v s)
    (hs : subscripted slice false (.ref l) (.int k u) = operate [.ref l, .int k u] (getItem (.ref l) (.int k u)) := by with_unfolding_all rfl) :
    wpAny (model prog w) A (subscriptTail value slice (.ref l) (.int k u)) Q E s := by
  have hk : k.toNat < us.length := by omega
  have hl : s.heap.IsList l us.toArray := ⟨_, (N _ hm).1, rfl, n, rfl⟩
  exact tail_any hl.typeIs slot_list_getitem.lookup (wpAny_getItem_list hl h0 (by omega) (by simpa using List.getElem?_eq_getElem hk) (h _ (List.getElem?_eq_getElem hk) (List.getElem_mem hk))) hs
theorem any_len {l : Addr} {us : List Value} {n : Nat} {Q : Value → Shared → Prop} (N : News h₀ L s.heap news) (hm : (l, listOf us.toArray n) ∈ news) (hfit : us.length ≤ 1000)
    (h : Q (.int (us.length : Int) (s.toks + 1)) { s with toks := s.toks + 1 + 1 }) : wpAny (model prog w) A (call (.builtin "len") [.ref l]) Q E s := by
  have hl : s.heap.IsList l us.toArray := ⟨_, (N _ hm).1, rfl, n, rfl⟩
  have e : us.toArray.size = us.length := by rw [List.size_toArray]
  exact len_list hl (by rw [e]; omega) (by rw [e]; exact h)
theorem ints_len {l : Addr} {us : List Value} {ns : List Int} {n : Nat} {Q : Value → Shared → Prop} (N : News h₀ L s.heap news) (hm : (l, listOf us.toArray n) ∈ news) (hI : IntsAre us ns) (hfit : ns.length ≤ 1000)
    (h : Q (.int (ns.length : Int) (s.toks + 1)) { s with toks := s.toks + 1 + 1 }) : wpAny (model prog w) A (call (.builtin "len") [.ref l]) Q E s := by
  have hl : s.heap.IsList l us.toArray := ⟨_, (N _ hm).1, rfl, n, rfl⟩
  have e : us.toArray.size = ns.length := by rw [List.size_toArray, hI.length]
  exact len_list hl (by rw [e]; omega) (by rw [e]; exact h)
end
end

section
open PySem PySem.W PyProof.Rows PySem.Calls PySem.Spec PyProof.V
set_option Elab.async false
/-! tables: dicts of ints -/
def vals8 : List PV := [.int 1, .bool true, .int 0, .bool false, .int 2, .str (PySem.Str.ofString "a"), .str (PySem.Str.ofString "b"), .int (-5)]
def PV.data : PV → PyData
  | .int n => .int n
  | .bool b => .bool b
  | .str x => .str x
theorem VIs.flat {v : Value} {pv : PV} (h : VIs v pv) : Flat v pv.data := by
  cases h with
  | int n t => exact Flat.int n t
  | bool b => exact Flat.bool b
  | str x t => exact Flat.str x t
theorem VIs.of_flat {v : Value} {pv : PV} (h : Flat v pv.data) : VIs v pv := by
  cases pv with
  | int n => obtain ⟨t, rfl⟩ := Flat.int_inv h; exact .int n t
  | bool b => have := Flat.bool_inv h; subst this; exact .bool b
  | str x => obtain ⟨t, rfl⟩ := Flat.str_inv h; exact .str x t
def toD (T : List (Int × PV)) : List (PyData × PyData) := T.map fun q => (PyData.int q.1, q.2.data)
theorem lookup_D (k : Int) : ∀ T : List (Int × PV), PySem.Spec.lookup (.int k) (toD T) = (T.lookup k).map PV.data
  | [] => rfl
  | (a, b) :: r => by
    show (if PySem.Spec.same (.int a) (.int k) then some b.data else PySem.Spec.lookup (.int k) (toD r)) = _
    rw [PyProof.V.same_int, List.lookup_cons]
    by_cases e : a = k
    · subst e; simp
    · have e' : (k == a) = false := by simpa using Ne.symm e
      rw [e', decide_eq_false e]
      simp only [Bool.false_eq_true, if_false]
      exact lookup_D k r
/-- a table at v -/
def TIn (prog : Program) (w : World) (news : Led) (v : Value) (T : List (Int × PV)) : Prop :=
  ∃ d o kvs, v = .ref d ∧ (d, o) ∈ news ∧ (d == sysModules) = false ∧ o.IsDictOf (intKind prog w) kvs ∧ FlatPairs PyData.int kvs (toD T)
section
variable {prog : Program} {w : World} {A : Around} {E : Value → Shared → Prop} {s : Shared} {h₀ : Heap} {L d : Addr} {m : PySem.Str → Option Value} {news L9 : Led} {T : List (Int × PV)}
theorem TIn.mono {v : Value} (h : TIn prog w news v T) (hs : ∀ p ∈ news, p ∈ L9) : TIn prog w L9 v T := let ⟨d, o, kvs, a, b, c⟩ := h; ⟨d, o, kvs, a, hs _ b, c⟩
theorem TIn.tab {h : Heap} (t : TIn prog w L9 (.ref d) T) (N : News h₀ L h news) (hs : ∀ p ∈ L9, p ∈ news) : TabAt (intKind prog w) PyData.int h d (toD T) := by
  obtain ⟨d', o, kvs, e, hm, lo, hd, hf⟩ := t
  cases e
  exact TabAt.ofNews N (hs _ hm) lo hd hf
theorem t_in {k : Int} {t : Tok} {q : PV} {Q : Value → Shared → Prop} (t1 : TIn prog w L9 (.ref d) T) (hs : ∀ p ∈ L9, p ∈ news) (N : News h₀ L s.heap news) (hl : T.lookup k = some q) (h : Q (.bool true) { s with toks := s.toks + 1 }) :
    wpAny (model prog w) A (compareOp .In (.int k t) (.ref d)) Q E s :=
  in_tab PyProof.V.same_int (intKind_is prog w k t) (t1.tab N hs) (by rw [lookup_D, hl]; exact h)
theorem t_in_no {k : Int} {t : Tok} {Q : Value → Shared → Prop} (t1 : TIn prog w L9 (.ref d) T) (hs : ∀ p ∈ L9, p ∈ news) (N : News h₀ L s.heap news) (hl : T.lookup k = none) (h : Q (.bool false) { s with toks := s.toks + 1 }) :
    wpAny (model prog w) A (compareOp .In (.int k t) (.ref d)) Q E s :=
  in_tab PyProof.V.same_int (intKind_is prog w k t) (t1.tab N hs) (by rw [lookup_D, hl]; exact h)
theorem t_in_b {k : Int} {t : Tok} {Q : Value → Shared → Prop} (t1 : TIn prog w L9 (.ref d) T) (hs : ∀ p ∈ L9, p ∈ news) (N : News h₀ L s.heap news) (h : Q (.bool (T.lookup k).isSome) { s with toks := s.toks + 1 }) :
    wpAny (model prog w) A (compareOp .In (.int k t) (.ref d)) Q E s :=
  in_tab PyProof.V.same_int (intKind_is prog w k t) (t1.tab N hs) (by rw [lookup_D, Option.isSome_map]; exact h)
theorem t_notin_b {k : Int} {t : Tok} {Q : Value → Shared → Prop} (t1 : TIn prog w L9 (.ref d) T) (hs : ∀ p ∈ L9, p ∈ news) (N : News h₀ L s.heap news) (h : Q (.bool (!(T.lookup k).isSome)) { s with toks := s.toks + 1 }) :
    wpAny (model prog w) A (compareOp .NotIn (.int k t) (.ref d)) Q E s :=
  notin_tab PyProof.V.same_int (intKind_is prog w k t) (t1.tab N hs) (by rw [lookup_D, Option.isSome_map]; exact h)
theorem t_item {value slice : Expr} {k : Int} {t : Tok} {q : PV} {Q : Value → Shared → Prop} (t1 : TIn prog w L9 (.ref d) T) (hs : ∀ p ∈ L9, p ∈ news) (N : News h₀ L s.heap news) (hl : T.lookup k = some q) (h : ∀ v, VIs v q → Q v { s with toks := s.toks + 1 })
    (hsub : subscripted slice false (.ref d) (.int k t) = operate [.ref d, .int k t] (getItem (.ref d) (.int k t)) := by with_unfolding_all rfl) (hg : ∀ r, letTemporaryGo value (.ref d) r = pure ()) :
    wpAny (model prog w) A (subscriptTail value slice (.ref d) (.int k t)) Q E s :=
  item_tab PyProof.V.same_int (intKind_is prog w k t) (t1.tab N hs) (by rw [lookup_D, hl]; rfl) (fun v hv => h v (VIs.of_flat hv)) hsub hg
theorem t_get {k : Int} {t : Tok} {dv : Value} {dp : PV} {Q : Value → Shared → Prop} (t1 : TIn prog w L9 (.ref d) T) (hs : ∀ p ∈ L9, p ∈ news) (N : News h₀ L s.heap news) (hx : VIs dv dp) (h : ∀ v, VIs v ((T.lookup k).getD dp) → Q v { s with toks := s.toks + 1 }) :
    wpAny (model prog w) A (call (.builtin "dict.get") [.ref d, .int k t, dv]) Q E s :=
  call_get2_tab PyProof.V.same_int (intKind_is prog w k t) (t1.tab N hs) hx.flat (fun v hv => h v (VIs.of_flat (by
    rw [lookup_D] at hv
    cases hh : T.lookup k with
    | none => rw [hh] at hv; exact hv
    | some q => rw [hh] at hv; exact hv)))
theorem ints_of_keys {kvs : List (Int × Value)} : ∀ {vs : List Value}, vs.length = kvs.length → (∀ (j : Nat) (v : Value), vs[j]? = some v → ∃ k x, kvs[j]? = some (k, x) ∧ (intKind prog w).is k v = true) → IntsAre vs (kvs.map (·.1)) := by
  induction kvs with
  | nil =>
    intro vs hl _
    cases vs with
    | nil => exact .nil
    | cons _ _ => cases hl
  | cons q r ih =>
    intro vs hl hv
    cases vs with
    | nil => cases hl
    | cons v vs =>
      obtain ⟨k, x, e, hk⟩ := hv 0 v rfl
      cases e
      obtain ⟨t, rfl⟩ := Value.isInt_shape hk
      exact .cons k t (ih (by simpa using hl) fun j u hu => hv (j + 1) u hu)
theorem flat_keys {kvs : List (Int × Value)} {T : List (Int × PV)} (h : FlatPairs PyData.int kvs (toD T)) : kvs.map (·.1) = T.map (·.1) := by
  induction T generalizing kvs with
  | nil => cases h; rfl
  | cons q r ih =>
    obtain ⟨a, b⟩ := q
    generalize e : toD ((a, b) :: r) = D at h
    cases h with
    | nil => cases e
    | cons hv hr =>
      injection e with e1 e2
      injection e1 with e3 e4
      injection e3 with e5
      subst e5
      subst e2
      have ih' := ih hr
      rw [List.map_cons, List.map_cons, ih']
theorem t_sorted {Q : Value → Shared → Prop} (hh : A.handled = none) (F : Fr h₀ L s.heap m) (N : News h₀ L s.heap news) (t1 : TIn prog w L9 (.ref d) T) (hs : ∀ p ∈ L9, p ∈ news) (h64 : T.length < 64)
    (h : ∀ D h' tk vs' ns' e, Fr h₀ L h' m → News h₀ L h' ((D, listOf (List.toArray vs') e) :: news) → (∀ p ∈ news, p.1 < D) → IntsAre vs' ns' → ns'.Perm (T.map (·.1)) → ns'.Pairwise (· ≤ ·) → Q (.ref D) { s with heap := h', toks := tk }) :
    wpAny (model prog w) A (call (.builtin "sorted") [.ref d]) Q E s := by
  have Ta := t1.tab N hs
  obtain ⟨d', o, kvs, e, hm, lo, hd, hf⟩ := t1
  cases e
  have hk := flat_keys hf
  have hlen : kvs.length = T.length := by
    have := congrArg List.length hk
    simpa using this
  obtain ⟨ep, hat⟩ := (Heap.dictOf_iff.mpr ⟨o, (N _ (hs _ hm)).1, hd⟩ : s.heap.DictOf (intKind prog w) d kvs).dictAt
  refine kdu_sorted (kdl_dict (knd := intKind prog w) (kvs := kvs) (ep := ep) lo) hh F N hat (kdl_size (by omega)) fun B h' tk vs F' N' l1 hl hv => ?_
  have hI := ints_of_keys (prog := prog) (w := w) hl hv
  rw [hk] at hI
  refine ksk_lsort (news' := fun o => (B, o) :: news) F' N' (fun o => Upd.head fun p hp => Nat.ne_of_lt (l1 p hp)) rfl (by simpa using hI) (by rw [List.length_map]; exact h64) fun vs' ns' c h'' F'' N'' I' _ P' O' _ => ?_
  exact h B h'' tk vs' ns' c F'' N'' l1 I' P' O'
end
end

section
open PySem PySem.W PyProof.Rows PySem.Calls PySem.Spec PyProof.V
set_option Elab.async false
/-! repr -/
def pairD (q : Int × PV) : PyData := .tuple [.int q.1, q.2.data]
def plD (d : List (Int × PV)) : PyData := .list (d.map pairD)
/-- what the law builds -/
def Good (d : List (Int × PV)) : Prop := (∀ q ∈ d, 0 ≤ q.1 ∧ q.1 < 5 ∧ q.2 ∈ vals8) ∧ (d.map (·.1)).Nodup
theorem data_depth (pv : PV) : pv.data.depth = 0 := by cases pv <;> rfl
theorem data_dict (pv : PV) : pv.data.hasDict = false := by cases pv <;> rfl
theorem vals8_show {pv : PV} (h : pv ∈ vals8) : pv.data.showable = true := by
  simp only [vals8, List.mem_cons, List.not_mem_nil, or_false] at h
  rcases h with rfl | rfl | rfl | rfl | rfl | rfl | rfl | rfl <;> decide +kernel
theorem vals8_len {pv : PV} (h : pv ∈ vals8) : pv.data.shown.length ≤ 10 := by
  simp only [vals8, List.mem_cons, List.not_mem_nil, or_false] at h
  rcases h with rfl | rfl | rfl | rfl | rfl | rfl | rfl | rfl <;> decide +kernel
theorem vals8_len1 {pv : PV} (h : pv ∈ vals8) : (PyData.tuple [pv.data]).shown.length ≤ 20 := by
  simp only [vals8, List.mem_cons, List.not_mem_nil, or_false] at h
  rcases h with rfl | rfl | rfl | rfl | rfl | rfl | rfl | rfl <;> decide +kernel
theorem pair_len {k : Int} {pv : PV} (h0 : 0 ≤ k) (h5 : k < 5) (h : pv ∈ vals8) : (pairD (k, pv)).shown.length ≤ 20 := by
  have hk : k = 0 ∨ k = 1 ∨ k = 2 ∨ k = 3 ∨ k = 4 := by omega
  simp only [vals8, List.mem_cons, List.not_mem_nil, or_false] at h
  rcases hk with rfl | rfl | rfl | rfl | rfl <;> rcases h with rfl | rfl | rfl | rfl | rfl | rfl | rfl | rfl <;> decide +kernel
theorem textFrom_le : ∀ (ts : List Str) (k : Nat) (acc : Str), (textFrom k acc ts).length ≤ acc.length + piled ts
  | [], k, acc => by show acc.length ≤ acc.length + 0; omega
  | t :: r, k, acc => by
    have h := textFrom_le r (k + 1) (acc ++ (if k > 0 then ", " else "" : String) ++ t)
    have e : (acc ++ (if k > 0 then ", " else "" : String) ++ t).length ≤ acc.length + 2 + t.length := by
      rw [strLen_append, strLen_append]
      split
      · exact Nat.le_refl _
      · show acc.length + 0 + t.length ≤ _; omega
    rw [piled_cons]
    show (textFrom (k + 1) _ r).length ≤ _
    omega
theorem listText_le (ts : List Str) : (listText ts).length ≤ piled ts + 2 := by
  unfold listText
  rw [strLen_append]
  have := textFrom_le ts 0 "["
  show (textFrom 0 "[" ts).length + 1 ≤ _
  have e : (("[" : Str)).length = 1 := rfl
  omega
theorem piled_le {ts : List Str} {n : Nat} (h : ∀ t ∈ ts, t.length ≤ n) : piled ts ≤ (n + 2) * ts.length := by
  induction ts with
  | nil => exact Nat.le_refl _
  | cons t r ih =>
    rw [piled_cons, List.length_cons, Nat.mul_succ]
    have h1 := h t (.head _)
    have h2 := ih fun u hu => h u (.tail _ hu)
    omega
theorem shownAll_map (xs : List PyData) : PyData.shownAll xs = xs.map PyData.shown := by
  induction xs with
  | nil => rfl
  | cons x r ih => simp [PyData.shownAll, ih]
theorem nodup_len : ∀ (n : Nat) (l : List Int), l.Nodup → (∀ x ∈ l, 0 ≤ x ∧ x < (n : Int)) → l.length ≤ n
  | 0, l, _, hb => by
    cases l with
    | nil => exact Nat.le_refl _
    | cons x r => have := hb x (.head _); omega
  | n + 1, l, hn, hb => by
    have h := nodup_len n (l.filter fun x => decide (x ≠ (n : Int))) (hn.filter _) fun x hx => by
      have h1 := List.mem_filter.mp hx
      have h2 := hb x h1.1
      have h3 : x ≠ (n : Int) := by simpa using h1.2
      omega
    have hc : l.length ≤ (l.filter fun x => decide (x ≠ (n : Int))).length + 1 := by
      have e : l.length = (l.filter fun x => decide (x ≠ (n : Int))).length + (l.filter fun x => !decide (x ≠ (n : Int))).length := by
        rw [← List.countP_eq_length_filter, ← List.countP_eq_length_filter, List.length_eq_countP_add_countP (fun x => decide (x ≠ (n : Int)))]
        congr 1
        apply List.countP_congr
        intro x _
        simp
      have h1 : (l.filter fun x => !decide (x ≠ (n : Int))).length ≤ 1 := by
        rw [← List.countP_eq_length_filter]
        have : l.countP (fun x => !decide (x ≠ (n : Int))) = l.count (n : Int) := by
          rw [List.count]
          apply List.countP_congr
          intro x _
          simp
        rw [this]
        exact List.nodup_iff_count.mp hn _
      omega
    omega
theorem Good.len {d : List (Int × PV)} (h : Good d) : d.length ≤ 5 := by
  have := nodup_len 5 (d.map (·.1)) h.2 fun x hx => by
    obtain ⟨q, hq, rfl⟩ := List.mem_map.mp hx
    have := h.1 q hq
    exact ⟨this.1, this.2.1⟩
  simpa using this
theorem plD_len {d : List (Int × PV)} (h : Good d) : (plD d).shown.length ≤ 120 := by
  show (listText (PyData.shownAll (d.map pairD))).length ≤ 120
  have h1 := listText_le (PyData.shownAll (d.map pairD))
  have h2 := piled_le (ts := PyData.shownAll (d.map pairD)) (n := 20) fun t ht => by
    rw [shownAll_map, List.map_map] at ht
    obtain ⟨q, hq, rfl⟩ := List.mem_map.mp ht
    have := h.1 q hq
    exact pair_len this.1 this.2.1 this.2.2
  have h3 : (PyData.shownAll (d.map pairD)).length = d.length := by rw [shownAll_map]; simp
  have h4 := h.len
  rw [h3] at h2
  have : 22 * d.length ≤ 110 := by omega
  omega
theorem pairs_show {d : List (Int × PV)} (h : ∀ q ∈ d, 0 ≤ q.1 ∧ q.1 < 5 ∧ q.2 ∈ vals8) : PyData.showableAll (d.map pairD) = true := by
  induction d with
  | nil => rfl
  | cons q r ih =>
    have hq := h q (.head _)
    have h1 := ih fun x hx => h x (.tail _ hx)
    have h2 := vals8_show hq.2.2
    have h3 : (PyData.int q.1).showable = true := by
      have hk : q.1 = 0 ∨ q.1 = 1 ∨ q.1 = 2 ∨ q.1 = 3 ∨ q.1 = 4 := by omega
      rcases hk with e | e | e | e | e <;> rw [e] <;> decide +kernel
    show (((PyData.int q.1).showable && (q.2.data.showable && true)) && PyData.showableAll (r.map pairD)) = true
    rw [h1, h2, h3]; rfl
theorem pairs_dict (d : List (Int × PV)) : PyData.hasDictAll (d.map pairD) = false := by
  induction d with
  | nil => rfl
  | cons q r ih =>
    show ((false || (q.2.data.hasDict || false)) || PyData.hasDictAll (r.map pairD)) = false
    rw [ih, data_dict]; rfl
theorem pairs_depth (d : List (Int × PV)) : PyData.depthAll (d.map pairD) ≤ 1 := by
  induction d with
  | nil => exact Nat.zero_le _
  | cons q r ih =>
    simp only [List.map_cons, pairD, PyData.depth, PyData.depthAll, data_depth] at ih ⊢
    omega
theorem pairs_reads {h₀ h : Heap} {L : Addr} {news L9 : Led} (N : News h₀ L h news) (hs : ∀ p ∈ L9, p ∈ news) {vs : List Value} {d : List (Int × PV)} (hp : PairsIn L9 vs d) : ∃ as, ReadsAll h vs (d.map pairD) as := by
  induction hp with
  | nil => exact ⟨_, .nil⟩
  | cons h1 _ ih =>
    obtain ⟨as, ih⟩ := ih
    cases h1 with
    | mk hm hv => exact ⟨_, .cons (.tuple (N _ (hs _ hm)).1 rfl rfl (.cons (.int _ _) (.cons (hv.flat h) .nil))) ih⟩
theorem PL.reads {h₀ h : Heap} {L : Addr} {news L9 : Led} (N : News h₀ L h news) (hs : ∀ p ∈ L9, p ∈ news) {v : Value} {d : List (Int × PV)} (hp : PL L9 v d) : ∃ as, Reads h v (plD d) as := by
  obtain ⟨hl, hp⟩ := hp
  obtain ⟨as, h1⟩ := pairs_reads N hs hp
  exact ⟨_, .list (N _ (hs _ hl)).1 rfl rfl h1⟩
section
variable {prog : Program} {w : World} {A : Around} {E : Value → Shared → Prop} {s : Shared} {h₀ : Heap} {L a : Addr} {m : PySem.Str → Option Value} {news L9 : Led}
theorem r_val {v : Value} {pv : PV} {Q : Value → Shared → Prop} (hv : VIs v pv) (hp : pv.data.showable = true) (hz : pv.data.shown.length ≤ 10) (h : ∀ u tk, Q (.str pv.data.shown u) { s with toks := tk }) : wpAny (model prog w) A (call (.builtin "repr") [v]) Q E s := by
  cases hv with
  | int n t => exact P.repr_of_int (by simpa [PV.data, PyData.showable] using hp) (h _ _)
  | bool b => exact P.repr_of_bool (h _ _)
  | str x t => exact P.repr_of_str (h _ _) (Nat.le_trans hz (by decide))
theorem r_tup {v : Value} {pv : PV} {Q : Value → Shared → Prop} (hv : VIs v pv) (hp : pv ∈ vals8) (F : Fr h₀ L s.heap m) (N : News h₀ L s.heap news) (hm : (a, tupOf [v]) ∈ news) (hg : A.guards = some []) (hu : A.units + 2 < cLine)
    (h : ∀ h' u tk, Fr h₀ L h' m → News h₀ L h' news → Q (.str (PyData.tuple [pv.data]).shown u) { s with heap := h', toks := tk }) : wpAny (model prog w) A (call (.builtin "repr") [.ref a]) Q E s := by
  have r : Reads s.heap (.ref a) (.tuple [pv.data]) _ := .tuple (N _ hm).1 rfl rfl (.cons (hv.flat s.heap) .nil)
  refine repr_of_reads' r ?_ ?_ hg ?_ (fun _ _ e => e) (fun h' u tk hk => h h' u tk (F.keeps hk) (N.grown hk)) (Nat.le_trans (vals8_len1 hp) (by decide))
  · show (pv.data.showable && true) = true
    rw [vals8_show hp]; rfl
  · intro e
    have : (PyData.tuple [pv.data]).hasDict = false := by show (pv.data.hasDict || false) = false; rw [data_dict]; rfl
    rw [this] at e; cases e
  · have : (PyData.tuple [pv.data]).depth ≤ 1 := by simp only [PyData.depth, PyData.depthAll, data_depth]; omega
    omega
/-- repr([plist, other]) -/
theorem r_two {v1 v2 : Value} {n : Nat} {d1 d2 : List (Int × PV)} {Q : Value → Shared → Prop} (h1 : PL L9 v1 d1) (h2 : PL L9 v2 d2) (hs : ∀ p ∈ L9, p ∈ news) (g1 : Good d1) (g2 : Good d2) (F : Fr h₀ L s.heap m) (N : News h₀ L s.heap news) (hm : (a, listOf [v1, v2].toArray n) ∈ news) (hg : A.guards = some []) (hu : A.units + 4 < cLine)
    (h : ∀ h' u tk, Fr h₀ L h' m → News h₀ L h' news → Q (.str (PyData.list [plD d1, plD d2]).shown u) { s with heap := h', toks := tk }) : wpAny (model prog w) A (call (.builtin "repr") [.ref a]) Q E s := by
  obtain ⟨as1, r1⟩ := h1.reads N hs
  obtain ⟨as2, r2⟩ := h2.reads N hs
  have r : Reads s.heap (.ref a) (.list [plD d1, plD d2]) _ := .list (N _ hm).1 rfl rfl (.cons r1 (.cons r2 .nil))
  refine repr_of_reads' r ?_ ?_ hg ?_ (fun _ _ e => e) (fun h' u tk hk => h h' u tk (F.keeps hk) (N.grown hk)) ?_
  · show (PyData.showableAll (d1.map pairD) && (PyData.showableAll (d2.map pairD) && true)) = true
    rw [pairs_show g1.1, pairs_show g2.1]; rfl
  · intro e
    have : (PyData.list [plD d1, plD d2]).hasDict = false := by
      show (PyData.hasDictAll (d1.map pairD) || (PyData.hasDictAll (d2.map pairD) || false)) = false
      rw [pairs_dict, pairs_dict]; rfl
    rw [this] at e; cases e
  · have e1 := pairs_depth d1
    have e2 := pairs_depth d2
    have : (PyData.list [plD d1, plD d2]).depth ≤ 3 := by
      simp only [plD, PyData.depth, PyData.depthAll]
      omega
    omega
  · have h1 := listText_le [(plD d1).shown, (plD d2).shown]
    have l1 := plD_len g1
    have l2 := plD_len g2
    have h2 : piled [(plD d1).shown, (plD d2).shown] = (plD d1).shown.length + 2 + ((plD d2).shown.length + 2) := by rw [piled_cons, piled_cons, piled_nil]
    show (listText [(plD d1).shown, (plD d2).shown]).length ≤ sizeLine
    exact Nat.le_trans (by omega : _ ≤ 300) (by decide)
end
end

section
open PySem PySem.W PyProof.Rows PySem.Calls PySem.Spec
local macro_rules | `(tactic| kwd_inv) => `(tactic| exact ⟨by k_asm, by k_asm, by k_asm, by k_asm, by k_asm, by first | exact rfl | assumption, by ktr_room, by ktr_units⟩)
local macro_rules | `(tactic| ktr_rel) => `(tactic| first | exact sub_refl | exact above_nil | with_reducible assumption | ((with_reducible refine above_cons' (lt_sub (by assumption) (by ktr_rel)) ?_); ktr_rel) | ((with_reducible refine above_ne (ne_sub (by assumption) (by ktr_rel)) ?_); ktr_rel) | ((with_reducible refine sub_right ?_); ktr_rel) | ((with_reducible refine sub_left ?_); ktr_rel) | ((with_reducible refine sub_cons ?_); ktr_rel) | exact List.forall_mem_nil _ | ((with_reducible refine List.forall_mem_cons.mpr ⟨by k_mem, ?_⟩); ktr_rel) | ((with_reducible refine List.forall_mem_append.mpr ⟨?kra, ?krb⟩); (case kra => ktr_rel); (case krb => ktr_rel)))
local macro_rules | `(tactic| walk_at "newTuple") => `(tactic| (k_here; k_dflt (refine' kup_newTuple ?F ?N ?_ ?z; (case F => k_asm); (case N => k_asm); (case z => kmk_size)); intro D' h' F' N' l1; (try k_sweep)))
local macro_rules | `(tactic| walk_at "newList") => `(tactic| (k_here; k_dflt (refine' newList_K ?k1 ?k2 ?_; (case k1 => k_asm); (case k2 => k_asm); k_whole); intro l' h' F' N' l1; (try k_sweep)))
local macro_rules | `(tactic| k_mem) => `(tactic| first | with_reducible assumption | exact List.mem_cons_self | ((with_reducible refine List.mem_cons_of_mem _ ?_); k_mem) | ((with_reducible refine List.mem_append_left _ ?_); k_mem) | ((with_reducible refine List.mem_append_right _ ?_); k_mem) | exact mem_sub (by assumption) (by ktr_rel))
local macro_rules | `(tactic| walk_at "call builtin:len") => `(tactic| (k_here; (with_reducible show wpAny _ _ (call (Value.builtin "len") [Value.ref _]) _ _ _); k_dflt (refine' pl_len ?k1 ?k2 ?k3 ?k4 ?_; (case k1 => k_asm); (case k2 => k_mem); (case k3 => assumption); (case k4 => assumption); k_whole)))
local macro_rules | `(tactic| walk_at "subscriptTail") => `(tactic| (k_here; (with_reducible show wpAny _ _ (subscriptTail _ _ (Value.ref _) (Value.int _ _)) _ _ _); k_dflt (refine' pl_item ?k1 ?k2 ?k3 ?k4 ?k5 ?k6 ?_ ?k7; (case k1 => k_asm); (case k2 => k_mem); (case k3 => assumption); (case k4 => omega); (case k5 => omega); (case k6 => assumption); (case k7 => with_unfolding_all rfl); k_whole); intro a' kk' t' v' pv' hget' hmem' hv'))
local macro_rules | `(tactic| walk_at "binaryOp Add") => `(tactic| (k_here; (with_reducible show wpAny _ _ (binaryOp _ (Value.ref _) (Value.ref _)) _ _ _); k_dflt (refine' pl_add ?k1 ?k2 ?k3 ?k4 ?k5 ?_; (case k1 => k_asm); (case k2 => k_asm); (case k3 => k_mem); (case k4 => k_mem); (case k5 => ((try simp only [List.length_append, List.length_take, List.length_drop, List.length_cons, List.length_nil]); omega)); k_whole); intro D' h' F' N' l1; (try k_sweep)))
local macro_rules | `(tactic| walk_at "subscriptTail Name Slice ref ref") => `(tactic| (k_here; (with_reducible show wpAny _ _ (subscriptTail _ (PySem.Expr.Slice _ _ none _) (Value.ref _) (Value.ref _)) _ _ _); k_dflt (refine' kms_slice_lit ?F ?N ?l ?p ?q ?e ?_ ?s ?t ?z; (case F => k_asm); (case N => k_asm); (case l => exact News.isList (by k_asm) (by k_mem)); (case p => kmk_part); (case q => kmk_part); (case e => first | exact pick_take | exact pick_drop); (case s => with_unfolding_all rfl); (case t => kmk_pure); (case z => assumption)); intro D' h' F' N' l1; (try k_sweep)))
local macro_rules | `(tactic| tb_start) => `(tactic| (refine' code_defC ?k1 ?k2 ?k3 ?k4 ?k5 ?kA ?kF ?kK ?k6 ?k7 ?k8 ?k9 ?kB ?kD ?_ ?c2 ?c3 ?c4; (case kA => exact rfl); (case kF => exact rfl); (case kK => assumption); (case k1 => k_asm); (case k2 => k_asm); (case k3 => k_asm); (case k4 => k_asm); (case k5 => k_asm); (case k6 => k_is); (case k7 => k_is); (case k8 => ktr_room); (case k9 => exact BindsTo.of_eq rfl); (case kB => exact rfl); (case kD => decide +kernel); (case c2 => exact rfl); (case c3 => exact rfl); (case c4 => exact rfl); k_whole; intro g' L' h' tk' cells' FG' F' N' Y' B' X' T' l1; k_cells Y'; (try simp only [List.cons_append, List.nil_append] at N'); (try dsimp only); (try k_fold)))
local macro_rules | `(tactic| walk_at "compareOp NotIn int ref") => `(tactic| (k_here; k_dflt (refine notin_list_ints (News.isList (by k_asm) (by k_mem)) (by assumption) ?_)))
local macro_rules | `(tactic| tb_rel) => `(tactic| (repeat' (first | exact Same.rfl | (refine Same.put ?_ (by decide)))))
local macro_rules | `(tactic| k_all) => `(tactic| first | with_reducible assumption | ((with_reducible refine List.forall_mem_append.mpr ⟨?kaa, ?kab⟩); (case kaa => k_all); (case kab => k_all)) | ((with_reducible refine List.forall_mem_cons.mpr ⟨?kac, ?kad⟩); (case kac => exact ne_fresh (by assumption) (by k_mem)); (case kad => k_all)) | exact ne_lt (by assumption) | exact OwnOff.ne (by assumption) (by k_memK))
local macro_rules | `(tactic| walk_at "call builtin:list.append") => `(tactic| (k_here; (with_reducible show wpAny _ _ (call (Value.builtin _) [Value.ref _, _]) _ _ _); k_dflt (refine' append_K ?k1 ?k2 ?k3 ?_ ?z; (case k1 => k_asm); (case k2 => k_asm); (case k3 => k_upd); (case z => assumption); k_whole); intro h' F' N'; (try k_sweep)))
local macro_rules | `(tactic| walk_at "call builtin:sorted") => `(tactic| (k_here; (with_reducible show wpAny _ _ (call (Value.builtin _) [Value.ref _]) _ _ _); k_dflt (refine' pl_sorted ?k1 ?k2 ?k3 ?k4 ?k5 ?_; (case k1 => k_asm); (case k2 => k_asm); (case k3 => k_mem); (case k4 => assumption); (case k5 => assumption); k_whole); intro D' h' vs' ns' e' F' N' l1 I' P' O'; (try k_sweep)))
local macro_rules | `(tactic| walk_at "CompSrcT") => `(tactic| refine stop ?_)
local macro_rules | `(tactic| walk_at "SrcLP") => `(tactic| refine stop ?_)
local macro_rules | `(tactic| walk_at "setItem ref int") => `(tactic| (k_here; (with_reducible show wpAny _ _ (setItem (Value.ref _) (Value.int _ _) _) _ _ _); k_dflt (refine' pl_set ?k1 ?k2 ?k3 ?k4 ?k5 ?k6 ?k7 ?_; (case k1 => k_asm); (case k2 => k_asm); (case k3 => k_upd); (case k4 => decide); (case k5 => (simp only [List.length_cons, List.length_nil]; decide)); (case k6 => decide); (case k7 => exact rfl); k_whole); intro h' F' N'; (try k_sweep)))

section
open PySem PySem.W PyProof.Rows PySem.Calls PySem.Spec
set_option Elab.async false
set_option maxRecDepth 100000
set_option maxHeartbeats 8000000
set_option pp.deepTerms.threshold 3
set_option pp.deepTerms false
theorem fill1 : ∀ (w : World) (h : Heap), PySem.Challenge.rw_ok0041_01.row.toRowW.prog = PySem.Challenge.rw_ok0041_01.prog → (Mine.hd.heap_39 w.params).In h → True := by
  k_fill
  intros
  trivial
variable {prog : Program} {w : World} {p : Program} {loose : List PySem.Str} {mean : ExcName → Option Value} {mg mb : PySem.Str → Option Value}
theorem eq_tl {news : Led} {v1 v2 : Value} {d1 d2 : PV} (h1 : VIs v1 d1) (h2 : VIs v2 d2) :
    TlV prog w p loose mean mg mb 2 21 [v1, v2] news (fun r => r = .bool (d1.eqv d2)) := by
  w_top off
  unfold TlV
  intro dp un cn cs a ccd cl outer A₀ base h₀ L m s Q E B F X N T hk hd hu hret
  cases h1 <;> cases h2
  all_goals (
    refine wpAny_call ?_
    k_dflt ktr_enter
    k_steps
    exact hret _ _ _ (by k_asm) (by k_asm) rfl)
section
local macro_rules | `(tactic| walk_at "pyIter ref") => `(tactic| refine stop ?_)
theorem find_tl {news : Led} {v : Value} {k : Int} {t : Tok} {d : List (Int × PV)} (h1 : PL news v d) (hlen : d.length ≤ 1000) :
    TlV prog w p loose mean mg mb 2 28 [v, .int k t] news (FindOut d k) := by
  w_top off
  unfold TlV
  intro dp un cn cs a ccd cl outer A₀ base h₀ L m s Q E B F X N T hk hd hu hret
  obtain ⟨hl, hp⟩ := h1
  refine wpAny_call ?_
  k_dflt ktr_enter
  rename_i l vs nn g1 L1 h1 FG1 F1 N1 B1 X1 T1
  replace F1 : Fr g1 L1 h1 (fun y => List.lookup y [(PySem.Str.ofString "number", Value.int k t), (PySem.Str.ofString "plist", Value.ref l)]) := F1
  k_steps
  refine Stop.mk ?_
  refine rng_iter (fun i m₁ nx => news = nx ∧ Same [PySem.Str.ofString "at"] (fun y => List.lookup y [(PySem.Str.ofString "number", Value.int k t), (PySem.Str.ofString "plist", Value.ref l)]) m₁ ∧ ∀ j, j < i → (d[j]?.map (·.1)) ≠ some k) (by assumption) rfl rfl hlen (by assumption) (by assumption) ⟨rfl, Same.rfl, fun j hj => absurd hj (Nat.not_lt_zero _)⟩ ?_ ?_
  · rintro i t₁ m₁ nx h tk own hi hoff ⟨hnx, hm, hno⟩ F₁ N₁
    subst hnx
    replace F₁ := fr_but hm F₁
    k_steps
    · (with_reducible rename d[_]? = some _ => hget)
      (with_reducible rename _ = k => hkk)
      subst hkk
      exact hret _ _ _ (by k_asm) (drop_news (by k_asm) (sub_left sub_refl)) (.inr ⟨t₁, i, _, rfl, hi, hget, find_at hget hno, hno⟩)
    · refine InvEndG.intro (by k_asm) (by k_asm) (nx := news) ⟨rfl, Same.rfl.put (.head _), ?_⟩ (by assumption) (sub_left sub_refl) (sub_right sub_refl)
      exact find_more (by assumption) (by assumption) hno
  · rintro m₁ nx h tk ⟨hnx, hm, hno⟩ F₁ N₁
    subst hnx
    k_steps
    exact hret _ _ _ (by k_asm) (by k_asm) (.inl ⟨_, rfl, find_done hno⟩)
end
end

section
open PySem PySem.W PyProof.Rows PySem.Calls PySem.Spec
set_option Elab.async false
set_option maxRecDepth 100000
set_option maxHeartbeats 8000000
set_option pp.deepTerms.threshold 3
set_option pp.deepTerms false
theorem fill2 : ∀ (w : World) (h : Heap), PySem.Challenge.rw_ok0041_01.row.toRowW.prog = PySem.Challenge.rw_ok0041_01.prog → (Mine.hd.heap_39 w.params).In h → True := by
  k_fill
  intros
  trivial
variable {prog : Program} {w : World} {p : Program} {loose : List PySem.Str} {mean : ExcName → Option Value} {mg mb : PySem.Str → Option Value}
section
local macro_rules | `(tactic| walk_at "call ref") => `(tactic| (k_here; k_dflt (refine' TlV.use2 (eq_tl ?c1 ?c2) ?k ?_; (case k => kwd_inv); (case c1 => assumption); (case c2 => assumption)); intro r9 h9 tk9 F9 N9 ho9; subst ho9; (try dsimp only); (try k_fold)))
local macro_rules | `(tactic| walk_at "call ref") => `(tactic| (k_here; k_dflt (refine' TlV.use2 (find_tl ?c1 ?c2) ?k ?_; (case k => kwd_inv); (case c1 => exact PL.at (by assumption) (by ktr_rel)); (case c2 => assumption)); intro r9 h9 tk9 F9 N9 ho9; (obtain ⟨t9, hr9, hn9⟩ | ⟨t9, i9, pv9, hr9, hi9, hg9, hl9, hb9⟩ := ho9) <;> subst hr9 <;> (try dsimp only) <;> (try k_fold)))
theorem get_tl {L0 news : Led} {v : Value} {k : Int} {t : Tok} {d : List (Int × PV)} (h1 : PL L0 v d) (hlen : d.length ≤ 1000) :
    Tl prog w p loose mean mg mb 4 35 [v, .int k t] L0 news (fun led r => (d.lookup k = none ∧ r = .none) ∨ ∃ pv a v, d.lookup k = some pv ∧ r = .ref a ∧ (a, tupOf [v]) ∈ led ∧ VIs v pv) := by
  w_top off
  unfold Tl
  intro hsub dp un cn cs a ccd cl outer A₀ base h₀ L m s Q E B F X N T hk hd hu hret
  have h1' := h1.at hsub
  obtain ⟨hl0, hp0⟩ := h1
  have hl := hsub _ hl0
  have hp := hp0.mono hsub
  refine wpAny_call ?_
  k_dflt ktr_enter
  rename_i l vs nn g1 L1 h1 FG1 F1 N1 B1 X1 T1
  replace F1 : Fr g1 L1 h1 (fun y => List.lookup y [(PySem.Str.ofString "number", Value.int k t), (PySem.Str.ofString "plist", Value.ref l)]) := F1
  have hvl : vs.length ≤ 1000 := by rw [hp.length]; exact hlen
  have hvs : vs.toArray.size ≤ sizeLine := by rw [List.size_toArray]; exact Nat.le_trans hvl (by decide)
  k_steps
  · exact hret _ [] _ _ (by k_asm) (by k_asm) above_nil (.inl ⟨by assumption, rfl⟩)
  · (with_reducible rename List.lookup k d = some _ => hlk)
    (with_reducible rename VIs _ _ => hV)
    (with_reducible rename d[Int.toNat _]? = some _ => hg1)
    (with_reducible rename d[_]? = some (k, _) => hg2)
    rw [Int.toNat_natCast, hg2] at hg1
    cases hg1
    exact hret _ [(_, _)] _ _ (by k_asm) (by k_asm) (above_one (by assumption)) (.inr ⟨_, _, _, hlk, rfl, .head _, hV⟩)
theorem holds_tl {news : Led} {v u : Value} {k : Int} {t : Tok} {pv : PV} {d : List (Int × PV)} (h1 : PL news v d) (hlen : d.length ≤ 1000) (hu1 : VIs u pv) :
    TlV prog w p loose mean mg mb 4 54 [v, .int k t, u] news (fun r => r = .bool (holdsP d k pv)) := by
  w_top off
  unfold TlV
  intro dp un cn cs a ccd cl outer A₀ base h₀ L m s Q E B F X N T hk hd hu hret
  have h1' := h1
  obtain ⟨hl, hp⟩ := h1
  refine wpAny_call ?_
  k_dflt ktr_enter
  rename_i l vs nn g1 L1 h1 FG1 F1 N1 B1 X1 T1
  replace F1 : Fr g1 L1 h1 (fun y => List.lookup y [(PySem.Str.ofString "value", u), (PySem.Str.ofString "number", Value.int k t), (PySem.Str.ofString "plist", Value.ref l)]) := F1
  have hvl : vs.length ≤ 1000 := by rw [hp.length]; exact hlen
  have hvs : vs.toArray.size ≤ sizeLine := by rw [List.size_toArray]; exact Nat.le_trans hvl (by decide)
  k_steps
  · refine hret _ _ _ (by k_asm) (by k_asm) ?_
    (with_reducible rename List.lookup k d = none => hlk)
    unfold holdsP
    rw [hlk]
    first | rfl | exact congrArg Value.bool (by decide)
  · (with_reducible rename List.lookup k d = some _ => hlk)
    (with_reducible rename d[Int.toNat _]? = some _ => hg1)
    (with_reducible rename d[_]? = some (k, _) => hg2)
    rw [Int.toNat_natCast, hg2] at hg1
    cases hg1
    refine hret _ _ _ (by k_asm) (by k_asm) ?_
    unfold holdsP
    rw [hlk]
theorem with_tl {L0 news : Led} {v u : Value} {k : Int} {t : Tok} {pv : PV} {d : List (Int × PV)} (h1 : PL L0 v d) (hlen : d.length ≤ 1000) (hu1 : VIs u pv) :
    Tl prog w p loose mean mg mb 4 42 [v, .int k t, u] L0 news (fun led r => PL led r (withP d k pv)) := by
  w_top off
  unfold Tl
  intro hsub dp un cn cs a ccd cl outer A₀ base h₀ L m s Q E B F X N T hk hd hu hret
  have h1' := h1.at hsub
  obtain ⟨hl0, hp0⟩ := h1
  have hl := hsub _ hl0
  have hp := hp0.mono hsub
  refine wpAny_call ?_
  k_dflt ktr_enter
  rename_i l vs nn g1 L1 h1 FG1 F1 N1 B1 X1 T1
  replace F1 : Fr g1 L1 h1 (fun y => List.lookup y [(PySem.Str.ofString "value", u), (PySem.Str.ofString "number", Value.int k t), (PySem.Str.ofString "plist", Value.ref l)]) := F1
  have hvl : vs.length ≤ 1000 := by rw [hp.length]; exact hlen
  have hvs : vs.toArray.size ≤ sizeLine := by rw [List.size_toArray]; exact Nat.le_trans hvl (by decide)
  k_steps
  · (with_reducible rename List.lookup k d = none => hlk)
    refine hret _ [(_, _), (_, _), (_, _)] _ _ (by k_asm) (by k_asm) (by ktr_rel) ?_
    rw [← withP_none hlk]
    exact .mk (.head _) ((hp0.mono (by ktr_rel)).append (.cons (.mk (by k_mem) hu1) .nil))
  · (with_reducible rename d[_]? = some (k, _) => hg2)
    rename (∀ j, j < _ → _ ≠ some k) => hb
    refine hret _ [(_, _), (_, _), (_, _), (_, _), (_, _), (_, _)] _ _ (by k_asm) (by k_asm) (by ktr_rel) ?_
    rw [← withP_at hg2 hb]
    refine .mk (.head _) ?_
    rw [List.append_assoc]
    exact ((hp0.mono (by ktr_rel)).take _).append (.cons (.mk (by k_mem) hu1) ((hp0.mono (by ktr_rel)).drop _))
end
end

section
open PySem PySem.W PyProof.Rows PySem.Calls PySem.Spec
set_option Elab.async false
set_option maxRecDepth 100000
set_option maxHeartbeats 8000000
set_option pp.deepTerms.threshold 3
set_option pp.deepTerms false
theorem fill3 : ∀ (w : World) (h : Heap), PySem.Challenge.rw_ok0041_01.row.toRowW.prog = PySem.Challenge.rw_ok0041_01.prog → (Mine.hd.heap_39 w.params).In h → True := by
  k_fill
  intros
  trivial
variable {prog : Program} {w : World} {p : Program} {loose : List PySem.Str} {mean : ExcName → Option Value} {mg mb : PySem.Str → Option Value}
section
local macro_rules | `(tactic| walk_at "eval ListComp") => `(tactic| refine stop ?_)
theorem without_tl {L0 news : Led} {v : Value} {k : Int} {t : Tok} {d : List (Int × PV)} (h1 : PL L0 v d) (hlen : d.length ≤ 1000) :
    Tl prog w p loose mean mg mb 4 47 [v, .int k t] L0 news (fun led r => PL led r (d.filter fun q => !(q.1 == k))) := by
  w_top off
  unfold Tl
  intro hsub dp un cn cs a ccd cl outer A₀ base h₀ L m s Q E B F X N T hk hd hu hret
  have h1' := h1.at hsub
  obtain ⟨hl0, hp0⟩ := h1
  have hl := hsub _ hl0
  have hp := hp0.mono hsub
  refine wpAny_call ?_
  k_dflt tb_start
  rename_i l vs nn g1 L1 h1 tk1 FG1 F1 B1 X1 T1 l1 o1 d1 N1
  have hvl : vs.length ≤ 1000 := by rw [hp.length]; exact hlen
  have hvs : vs.toArray.size ≤ sizeLine := by rw [List.size_toArray]; exact Nat.le_trans hvl (by decide)
  replace d1 : o1.data = .cell (some (.int k t)) := by
    exact d1
  k_steps
  refine Stop.mk ?_
  refine LCt.ListComp_T (F₀ := by k_asm) (by with_unfolding_all rfl) (by decide) (by rfl) (by decide) (by rfl) ?_
  k_steps
  refine Stop.mk (LCt.CompSrcT.ledger rfl (by k_asm) (by k_asm) (by k_mem) hvs (fun g => ?_))
  rw [List.size_toArray]
  refine comp_filter (fun i => !((d[i]?.getD (0, .bool true)).1 == k)) (fun i => vs[i]?.getD .none) vs.length (.inr ⟨_, .tail _ hl, rfl, _, rfl⟩) ?_ ?_ _ 0 [] (by omega) ?_
  · intro i v I oI C oC D ys m₂ h tk E' Q' hi hP hC hx F2 N2 hQ
    have hi' : i < d.length := by rw [← hp.length]; exact hi
    obtain ⟨v', hv', hD⟩ := hp.get hi'
    have hv2 : v' = v := by simpa [hv'] using hP
    subst hv2
    have hD' := List.getElem?_eq_getElem hi'
    generalize d[i]'hi' = q at hD hD'
    obtain @⟨ad, kk', t', v', pv', ha, hV⟩ := hD
    simp only [hD', Option.getD_some] at hQ
    k_steps
    exact hQ _
  · intro i v I oI C oC D ys m₂ h tk E' Q' hi hP hC hx F2 N2 _ hQ
    have hP' : vs[i]? = some v := by simpa using hP
    simp only [hP', Option.getD_some] at hQ
    k_steps
    exact hQ _
  · unfold LCg.FinE
    intro D h tk F2 N2 o2
    k_steps
    refine hret _ [(_, _)] _ _ (by k_asm) (drop_news (by k_asm) (by ktr_rel)) (above_ne (fun p hp => off1_ne o2 p (.tail _ hp)) above_nil) ?_
    exact PL.sel (hp0.mono (by ktr_rel)) _ (by k_mem)
theorem removed_tl {L0 news : Led} {v : Value} {nl : Addr} {us : List Value} {ns : List Int} {un' : Nat} {d : List (Int × PV)} (h1 : PL L0 v d) (hlen : d.length ≤ 1000) (hnl : (nl, listOf us.toArray un') ∈ news) (hns : IntsAre us ns) :
    Tl prog w p loose mean mg mb 4 73 [v, .ref nl] L0 news (fun led r => PL led r (d.filter fun q => !(ns.any (· == q.1)))) := by
  w_top off
  unfold Tl
  intro hsub dp un cn cs a ccd cl outer A₀ base h₀ L m s Q E B F X N T hk hd hu hret
  have h1' := h1.at hsub
  obtain ⟨hl0, hp0⟩ := h1
  have hl := hsub _ hl0
  have hp := hp0.mono hsub
  refine wpAny_call ?_
  k_dflt tb_start
  rename_i l vs nn g1 L1 h1 tk1 FG1 F1 B1 X1 T1 l1 o1 d1 N1
  have hvl : vs.length ≤ 1000 := by rw [hp.length]; exact hlen
  have hvs : vs.toArray.size ≤ sizeLine := by rw [List.size_toArray]; exact Nat.le_trans hvl (by decide)
  replace d1 : o1.data = .cell (some (.ref nl)) := by
    exact d1
  k_steps
  refine Stop.mk ?_
  refine LCt.ListComp_T (F₀ := by k_asm) (by with_unfolding_all rfl) (by decide) (by rfl) (by decide) (by rfl) ?_
  k_steps
  refine Stop.mk (LCt.CompSrcT.ledger rfl (by k_asm) (by k_asm) (by k_mem) hvs (fun g => ?_))
  rw [List.size_toArray]
  refine comp_filter (fun i => !(ns.any (· == (d[i]?.getD (0, .bool true)).1))) (fun i => vs[i]?.getD .none) vs.length (.inr ⟨_, .tail _ hl, rfl, _, rfl⟩) ?_ ?_ _ 0 [] (by omega) ?_
  · intro i v I oI C oC D ys m₂ h tk E' Q' hi hP hC hx F2 N2 hQ
    have hi' : i < d.length := by rw [← hp.length]; exact hi
    obtain ⟨v', hv', hD⟩ := hp.get hi'
    have hv2 : v' = v := by simpa [hv'] using hP
    subst hv2
    have hD' := List.getElem?_eq_getElem hi'
    generalize d[i]'hi' = q at hD hD'
    obtain @⟨ad, kk', t', v', pv', ha, hV⟩ := hD
    simp only [hD', Option.getD_some] at hQ
    k_steps
    exact hQ _
  · intro i v I oI C oC D ys m₂ h tk E' Q' hi hP hC hx F2 N2 _ hQ
    have hP' : vs[i]? = some v := by simpa using hP
    simp only [hP', Option.getD_some] at hQ
    k_steps
    exact hQ _
  · unfold LCg.FinE
    intro D h tk F2 N2 o2
    k_steps
    refine hret _ [(_, _)] _ _ (by k_asm) (drop_news (by k_asm) (by ktr_rel)) (above_ne (fun p hp => off1_ne o2 p (.tail _ hp)) above_nil) ?_
    exact PL.sel (hp0.mono (by ktr_rel)) _ (by k_mem)
end
end

section
open PySem PySem.W PyProof.Rows PySem.Calls PySem.Spec
set_option Elab.async false
set_option maxRecDepth 100000
set_option maxHeartbeats 8000000
set_option pp.deepTerms.threshold 3
set_option pp.deepTerms false
theorem fill4 : ∀ (w : World) (h : Heap), PySem.Challenge.rw_ok0041_01.row.toRowW.prog = PySem.Challenge.rw_ok0041_01.prog → (Mine.hd.heap_39 w.params).In h → True := by
  k_fill
  intros
  trivial
variable {prog : Program} {w : World} {p : Program} {loose : List PySem.Str} {mean : ExcName → Option Value} {mg mb : PySem.Str → Option Value}
section
local macro_rules | `(tactic| walk_at "call ref") => `(tactic| (k_here; k_dflt (refine' TlV.use2 (holds_tl ?c1 ?c2 ?c3) ?k ?_; (case k => kwd_inv); (case c1 => exact PL.at (by assumption) (by ktr_rel)); (case c2 => assumption); (case c3 => assumption)); intro r9 h9 tk9 F9 N9 ho9; subst ho9; (try dsimp only); (try k_fold)))
local macro_rules | `(tactic| walk_at "call ref") => `(tactic| (k_here; k_dflt (refine' Tl.use2 (with_tl ?c1 ?c2 ?c3) ?hs ?k ?_; (case k => kwd_inv); (case c1 => assumption); (case hs => ktr_rel); (case c2 => assumption); (case c3 => assumption)); intro r9 tl9 h9 tk9 F9 N9 hl9 ho9; (try dsimp only); (try k_fold)))
local macro_rules | `(tactic| walk_at "exec For Tuple Name cons nil") => `(tactic| (k_here; (rename Fr _ _ _ _ => lF'); (with_unfolding_all refine' For_pl lF' ?k1 ?k2 ?k3 ?k4 ?_; (case k1 => exact rfl); (case k2 => exact rfl); (case k3 => exact rfl); (case k4 => exact rfl); k_whole)))
local macro_rules | `(tactic| walk_at "PLLoop") => `(tactic| refine stop ?_)
theorem same_tl {news : Led} {v u : Value} {d e : List (Int × PV)} (h1 : PL news v d) (h2 : PL news u e) (hlen : d.length ≤ 1000) (hlen2 : e.length ≤ 1000) :
    TlV prog w p loose mean mg mb 6 61 [v, u] news (fun r => r = .bool (sameP d e)) := by
  w_top off
  unfold TlV
  intro dp un cn cs a ccd cl outer A₀ base h₀ L m s Q E B F X N T hk hd hu hret
  have h1' := h1
  have h2' := h2
  obtain ⟨hl, hp⟩ := h1
  obtain ⟨hl2, hp2⟩ := h2
  refine wpAny_call ?_
  k_dflt ktr_enter
  rename_i l vs nn l2 vs2 nn2 g1 L1 h1 FG1 F1 N1 B1 X1 T1
  replace F1 : Fr g1 L1 h1 (fun y => List.lookup y [(PySem.Str.ofString "other", Value.ref l2), (PySem.Str.ofString "one", Value.ref l)]) := F1
  k_steps
  · refine hret _ _ _ (by k_asm) (by k_asm) ?_
    have : d.length ≠ e.length := by omega
    simp [sameP, this]
  · have heq' : d.length = e.length := by omega
    refine Stop.mk ⟨l, vs, nn, d, _, news, news, fun i m₁ nx => news = nx ∧ Same [PySem.Str.ofString "number", PySem.Str.ofString "value"] (fun y => List.lookup y [(PySem.Str.ofString "other", Value.ref l2), (PySem.Str.ofString "one", Value.ref l)]) m₁ ∧ ∀ j x, j < i → d[j]? = some x → holdsP e x.1 x.2 = true, rfl, hl, hp, by k_asm, by k_asm, fun i m nx h => h.1 ▸ sub_refl, ⟨rfl, Same.rfl, fun j _ hj => absurd hj (Nat.not_lt_zero _)⟩, ?_, ?_⟩
    · rintro i k t v pv m₁ nx h tk own hget hv hoff ⟨hnx, hm, hall⟩ F₁ N₁
      subst hnx
      replace F₁ := fr_but2 hm F₁
      k_steps
      · refine InvEndG.intro (by k_asm) (by k_asm) (nx := news) ⟨rfl, (by tb_rel), ?_⟩ (by assumption) (sub_left sub_refl) (sub_right sub_refl)
        exact all_more hget (by assumption) hall
      · (with_reducible rename holdsP e k pv = false => hf)
        refine hret _ _ _ (by k_asm) (drop_news (by k_asm) (by ktr_rel)) ?_
        have : d.all (fun q => holdsP e q.1 q.2) = false := all_stop hget hf
        simp [sameP, this]
    · rintro m₁ nx h tk ⟨hnx, hm, hall⟩ F₁ N₁
      subst hnx
      k_steps
      refine hret _ _ _ (by k_asm) (by k_asm) ?_
      simp [sameP, heq', all_done hall]
theorem added_tl {L0 news : Led} {v u : Value} {d e : List (Int × PV)} (h1 : PL L0 v d) (h2 : PL L0 u e) (hlen : d.length + e.length ≤ 1000) :
    Tl prog w p loose mean mg mb 6 68 [v, u] L0 news (fun led r => PL led r (addedP d e)) := by
  w_top off
  unfold Tl
  intro hsub dp un cn cs a ccd cl outer A₀ base h₀ L m s Q E B F X N T hk hd hu hret
  have h1' := h1
  obtain ⟨hl2, hp2⟩ := h2
  refine wpAny_call ?_
  k_dflt ktr_enter
  rename_i l2 vs2 nn2 g1 L1 h1 FG1 F1 N1 B1 X1 T1
  replace F1 : Fr g1 L1 h1 (fun y => List.lookup y [(PySem.Str.ofString "more", Value.ref l2), (PySem.Str.ofString "plist", v)]) := F1
  k_steps
  refine Stop.mk ⟨l2, vs2, nn2, e, _, news, news, fun i m₁ nx => ∃ tl lf, nx = tl ++ news ∧ Above news tl ∧ Same [PySem.Str.ofString "found", PySem.Str.ofString "number", PySem.Str.ofString "value"] (fun y => List.lookup y [(PySem.Str.ofString "more", Value.ref l2), (PySem.Str.ofString "plist", v)]) m₁ ∧ m₁ (PySem.Str.ofString "found") = some lf ∧ PL (tl ++ L0) lf (addedP d (e.take i)), rfl, hsub _ hl2, hp2.mono hsub, by k_asm, by k_asm, ?_, ⟨[], v, rfl, above_nil, (by tb_rel), rfl, h1'⟩, ?_, ?_⟩
  · rintro i m nx ⟨tl, lf, rfl, _⟩
    exact sub_right sub_refl
  · rintro i k t v pv m₁ nx h tk own hget hv hoff ⟨tl, lf, rfl, hab, hm, hfd, hpl⟩ F₁ N₁
    replace F₁ := fr_but2 (hm.known hfd) F₁
    have hi : i < e.length := (List.getElem?_eq_some_iff.mp hget).1
    have hll : (addedP d (e.take i)).length ≤ 1000 := by
      have := addedP_len (e.take i) d
      rw [List.length_take] at this
      omega
    have hsub1 : ∀ p ∈ tl ++ L0, p ∈ tl ++ news ++ own := fun p hp => List.mem_append_left _ ((List.mem_append.mp hp).elim (fun h => List.mem_append_left _ h) fun h => List.mem_append_right _ (hsub p h))
    k_steps
    · refine InvEndG.intro (by k_asm) (by k_asm) (nx := tl ++ news) ⟨tl, lf, rfl, hab, (by tb_rel), rfl, ?_⟩ (by assumption) (by ktr_rel) (by ktr_rel)
      rw [addedP_take hget, if_pos (by assumption)]
      exact hpl
    · (with_reducible rename holdsP _ k pv = false => hf)
      (with_reducible rename Above _ _ => hl9)
      (with_reducible rename PL _ _ (withP _ _ _) => ho9)
      rename_i tl9 _ _ _ _ _ _
      refine InvEndG.intro (by k_asm) (by k_asm) (nx := _ ++ tl ++ news) ⟨_, _, rfl, above_app (hl9.sub (by ktr_rel)) hab, (by tb_rel), rfl, ?_⟩ ?_ ?_ (by ktr_rel)
      · rw [addedP_take hget, hf, List.append_assoc]
        exact ho9
      · rw [List.append_assoc]
        exact off_app hl9 hoff
      · rw [List.append_assoc]
        exact List.forall_mem_append.mpr ⟨by ktr_rel, by ktr_rel⟩
  · rintro m₁ nx h tk ⟨tl, lf, rfl, hab, hm, hfd, hpl⟩ F₁ N₁
    have F₂ : Fr g1 L1 h (fun y => if y = PySem.Str.ofString "found" then some lf else m₁ y) := by
      have e : (fun y => if y = PySem.Str.ofString "found" then some lf else m₁ y) = m₁ := by
        funext y
        by_cases hy : y = PySem.Str.ofString "found"
        · rw [if_pos hy, hy, hfd]
        · rw [if_neg hy]
      rw [e]; exact F₁
    k_steps
    refine hret _ tl _ _ (by k_asm) (by k_asm) hab ?_
    rw [List.take_length] at hpl
    exact hpl
end
end

section
open PySem PySem.W PyProof.Rows PySem.Calls PySem.Spec
set_option Elab.async false
set_option maxRecDepth 100000
set_option maxHeartbeats 8000000
set_option pp.deepTerms.threshold 3
set_option pp.deepTerms false
local macro_rules | `(tactic| walk_at "pad0") => `(tactic| skip)
theorem fill5 : ∀ (w : World) (h : Heap), PySem.Challenge.rw_ok0041_01.row.toRowW.prog = PySem.Challenge.rw_ok0041_01.prog → (Mine.hd.heap_39 w.params).In h → True := by
  k_fill
  intros
  trivial
variable {prog : Program} {w : World} {p : Program} {loose : List PySem.Str} {mean : ExcName → Option Value} {mg mb : PySem.Str → Option Value}
section
local macro_rules | `(tactic| walk_at "call ref") => `(tactic| (k_here; k_dflt (refine' TlV.use2 (find_tl ?c1 ?c2) ?k ?_; (case k => kwd_inv); (case c1 => exact PL.at (by assumption) (by ktr_rel)); (case c2 => assumption)); intro r9 h9 tk9 F9 N9 ho9; (obtain ⟨t9, hr9, hn9⟩ | ⟨t9, i9, pv9, hr9, hi9, hg9, hl9, hb9⟩ := ho9) <;> subst hr9 <;> (try dsimp only) <;> (try k_fold)))
local macro_rules | `(tactic| walk_at "call ref") => `(tactic| (k_here; k_dflt (refine' TlV.use2 (holds_tl ?c1 ?c2 ?c3) ?k ?_; (case k => kwd_inv); (case c1 => exact PL.at (by assumption) (by ktr_rel)); (case c2 => assumption); (case c3 => assumption)); intro r9 h9 tk9 F9 N9 ho9; subst ho9; (try dsimp only); (try k_fold)))
local macro_rules | `(tactic| walk_at "exec For Tuple Name cons nil") => `(tactic| (k_here; (rename Fr _ _ _ _ => lF'); (with_unfolding_all refine' For_pl lF' ?k1 ?k2 ?k3 ?k4 ?_; (case k1 => exact rfl); (case k2 => exact rfl); (case k3 => exact rfl); (case k4 => exact rfl); k_whole)))
local macro_rules | `(tactic| walk_at "PLLoop") => `(tactic| refine stop ?_)
theorem changed_tl {L0 news : Led} {v u : Value} {d e : List (Int × PV)} (h1 : PL news v d) (h2 : PL news u e) (hlen : d.length ≤ 1000) (hlen2 : e.length ≤ 1000) (h64 : d.length + e.length < 64) :
    Tl prog w p loose mean mg mb 6 80 [v, u] L0 news (fun led r => ∃ D ws ns n, r = .ref D ∧ (D, listOf ws.toArray n) ∈ led ∧ IntsAre ws ns ∧ ns.Perm (chA d e ++ chB d e) ∧ ns.Pairwise (· ≤ ·)) := by
  w_top off
  unfold Tl
  intro hsub dp un cn cs a ccd cl outer A₀ base h₀ L m s Q E B F X N T hk hd hu hret
  have h1' := h1
  have h2' := h2
  obtain ⟨hl, hp⟩ := h1
  obtain ⟨hl2, hp2⟩ := h2
  refine wpAny_call ?_
  k_dflt ktr_enter
  rename_i l vs nn l2 vs2 nn2 g1 L1 h1 FG1 F1 N1 B1 X1 T1
  replace F1 : Fr g1 L1 h1 (fun y => List.lookup y [(PySem.Str.ofString "other", Value.ref l2), (PySem.Str.ofString "one", Value.ref l)]) := F1
  k_steps
  rename_i fl hh0 hfl hh1 FF NN
  refine Stop.mk ⟨l, vs, nn, d, _, news, (fl, listOf [].toArray 0) :: news, fun i m₁ nx => ∃ ws n, nx = (fl, listOf ws.toArray n) :: news ∧ Same [PySem.Str.ofString "number", PySem.Str.ofString "value"] (fun y => if y = PySem.Str.ofString "found" then some (Value.ref fl) else List.lookup y [(PySem.Str.ofString "other", Value.ref l2), (PySem.Str.ofString "one", Value.ref l)]) m₁ ∧ IntsAre ws (chA (d.take i) e), rfl, hl, hp, by k_asm, by k_asm, ?_, ⟨[], 0, rfl, (by tb_rel), .nil⟩, ?_, ?_⟩
  · rintro i m nx ⟨ws, n, rfl, _⟩
    exact sub_cons sub_refl
  · rintro i k t v pv m₁ nx h tk own hget hv hoff ⟨ws, n, rfl, hm, hI⟩ F₁ N₁
    replace F₁ := fr_but2 hm F₁
    simp only [List.cons_append] at N₁
    have hws : ws.toArray.size ≤ sizeLine := by
      have := chA_len (d.take i) e
      rw [List.length_take] at this
      have h2 := hI.length
      rw [List.size_toArray]
      exact Nat.le_trans (by omega : ws.length ≤ 1000) (by decide)
    k_steps
    · refine InvEndG.intro (by k_asm) (by k_asm) (nx := (fl, listOf ws.toArray n) :: news) ⟨ws, n, rfl, (by tb_rel), ?_⟩ (by assumption) (by ktr_rel) (by ktr_rel)
      rw [chA_take hget, if_pos (by assumption)]
      exact hI
    · (with_reducible rename holdsP _ k pv = false => hf)
      (rename News _ _ _ _ => nE)
      simp only [List.push_toArray] at nE
      refine InvEndG.intro (by k_asm) nE (nx := (fl, listOf (ws ++ [Value.int k t]).toArray (n + 1)) :: news) ⟨_, _, rfl, (by tb_rel), ?_⟩ (by simpa using hoff) (by ktr_rel) (by ktr_rel)
      rw [chA_take hget, hf]
      exact IntsAre.snoc hI _ _
  · rintro m₁ nx h tk ⟨ws, n, rfl, hm, hI⟩ F₁ N₁
    rw [List.take_length] at hI
    replace F₁ := fr_out2 hm F₁
    k_steps
    refine Stop.mk ⟨l2, vs2, nn2, e, _, news, (fl, listOf ws.toArray n) :: news, fun i m₁' nx => ∃ ws n, nx = (fl, listOf ws.toArray n) :: news ∧ Same [PySem.Str.ofString "number", PySem.Str.ofString "value"] (fun y => if y = PySem.Str.ofString "found" then some (Value.ref fl) else List.lookup y [(PySem.Str.ofString "other", Value.ref l2), (PySem.Str.ofString "one", Value.ref l)]) m₁' ∧ IntsAre ws (chA d e ++ chB d (e.take i)), rfl, hl2, hp2, by k_asm, by k_asm, ?_, ⟨ws, n, rfl, (by tb_rel), by simpa [chB] using hI⟩, ?_, ?_⟩
    · rintro i m nx ⟨ws, n, rfl, _⟩
      exact sub_cons sub_refl
    · rintro i k t v pv m₂ nx h tk own hget hv hoff ⟨ws, n, rfl, hm, hI⟩ F₁ N₁
      replace F₁ := fr_but2 hm F₁
      simp only [List.cons_append] at N₁
      have hws : ws.toArray.size ≤ sizeLine := by
        have := chB_len d (e.take i)
        have h3 := chA_len d e
        rw [List.length_take] at this
        have h2 := hI.length
        rw [List.length_append] at h2
        rw [List.size_toArray]
        exact Nat.le_trans (by omega : ws.length ≤ 2000) (by decide)
      k_steps
      · (with_reducible rename List.lookup k d = none => hlk)
        (rename News _ _ _ _ => nE)
        simp only [List.push_toArray] at nE
        refine InvEndG.intro (by k_asm) nE (nx := (fl, listOf (ws ++ [Value.int k t]).toArray (n + 1)) :: news) ⟨_, _, rfl, (by tb_rel), ?_⟩ (by simpa using hoff) (by ktr_rel) (by ktr_rel)
        rw [chB_take hget, hlk]
        show IntsAre _ (chA d e ++ (chB d (e.take i) ++ [k]))
        rw [← List.append_assoc]
        exact IntsAre.snoc hI _ _
      · (with_reducible rename List.lookup k d = some _ => hlk)
        refine InvEndG.intro (by k_asm) (by k_asm) (nx := (fl, listOf ws.toArray n) :: news) ⟨ws, n, rfl, (by tb_rel), ?_⟩ (by assumption) (by ktr_rel) (by ktr_rel)
        rw [chB_take hget, hlk]
        exact hI
    · rintro m₂ nx h tk ⟨ws, n, rfl, hm, hI⟩ F₁ N₁
      rw [List.take_length] at hI
      replace F₁ := fr_out2 hm F₁
      have hc64 : (chA d e ++ chB d e).length < 64 := by
        have := chA_len d e
        have := chB_len d e
        rw [List.length_append]; omega
      k_steps
      refine hret _ [(_, _)] _ _ (by k_asm) (drop_news (by k_asm) (by ktr_rel)) (by ktr_rel) ⟨_, _, _, _, rfl, .head _, by assumption, by assumption, by assumption⟩
end
end

section
open PySem PySem.W PyProof.Rows PySem.Calls PySem.Spec
set_option Elab.async false
set_option maxRecDepth 100000
set_option maxHeartbeats 8000000
set_option pp.deepTerms.threshold 3
set_option pp.deepTerms false
theorem fill6 : ∀ (w : World) (h : Heap), PySem.Challenge.rw_ok0041_01.row.toRowW.prog = PySem.Challenge.rw_ok0041_01.prog → (Mine.hd.heap_39 w.params).In h → True := by
  k_fill
  intros
  trivial
variable {prog : Program} {w : World} {p : Program} {loose : List PySem.Str} {mean : ExcName → Option Value} {mg mb : PySem.Str → Option Value}
section
local macro_rules | `(tactic| walk_at "eval ListComp") => `(tactic| refine stop ?_)
theorem order_tl {L0 news : Led} {v : Value} {d : List (Int × PV)} (h1 : PL news v d) (hlen : d.length ≤ 1000) :
    Tl prog w p loose mean mg mb 4 116 [v] L0 news (fun led r => ∃ D ws n, r = .ref D ∧ (D, listOf ws.toArray n) ∈ led ∧ IntsAre ws (d.map (·.1))) := by
  w_top off
  unfold Tl
  intro hsub dp un cn cs a ccd cl outer A₀ base h₀ L m s Q E B F X N T hk hd hu hret
  obtain ⟨hl, hp⟩ := h1
  refine wpAny_call ?_
  k_dflt ktr_enter
  rename_i l vs nn g1 L1 h1 FG1 F1 N1 B1 X1 T1
  replace F1 : Fr g1 L1 h1 (fun y => List.lookup y [(PySem.Str.ofString "plist", Value.ref l)]) := F1
  have hvl : vs.length ≤ 1000 := by rw [hp.length]; exact hlen
  have hvs : vs.toArray.size ≤ sizeLine := by rw [List.size_toArray]; exact Nat.le_trans hvl (by decide)
  k_steps
  refine Stop.mk ?_
  refine LCp.ListComp_P (F₀ := by k_asm) (by with_unfolding_all rfl) (by decide) (by rfl) (by decide) (by rfl) (by rfl) (by decide) ?_
  k_steps
  refine Stop.mk (LCp.SrcLP.ledger rfl (by k_asm) (by k_asm) (by k_mem) hvs (fun g => ?_))
  rw [List.size_toArray]
  refine comp_pairs (.inr ⟨_, hl, rfl, _, rfl⟩) hp ?_ ?_ _ 0 [] (by omega) .nil
  · intro i k t v pv I oI C oC D ys m₂ h tk E' Q' hget hV hC hx hy F2 N2 hQ
    k_steps
    exact hQ _
  · intro ys hI
    unfold LCg.FinE
    intro D h tk F2 N2 o2
    k_steps
    refine hret _ [(_, _)] _ _ (by k_asm) (drop_news (by k_asm) (by ktr_rel)) (above_ne (off1_ne o2) above_nil) ⟨_, _, _, rfl, .head _, hI⟩
end
end

section
open PySem PySem.W PyProof.Rows PySem.Calls PySem.Spec
set_option Elab.async false
set_option maxRecDepth 100000
set_option maxHeartbeats 8000000
set_option pp.deepTerms.threshold 3
set_option pp.deepTerms false
local macro_rules | `(tactic| walk_at "pad0") => `(tactic| skip)
theorem fill7 : ∀ (w : World) (h : Heap), PySem.Challenge.rw_ok0041_01.row.toRowW.prog = PySem.Challenge.rw_ok0041_01.prog → (Mine.hd.heap_39 w.params).In h → True := by
  k_fill
  intros
  trivial
local macro_rules | `(tactic| kwd_rel) => `(tactic| exact ⟨by k_asm, by k_asm, by k_asm, by k_asm, by k_mem, by assumption, by assumption, by omega, by omega, by k_all, by k_asm, by first | exact rfl | assumption, by ktr_room, by ktr_units⟩)
local macro_rules | `(tactic| walk_at "call builtin:len") => `(tactic| (k_here; (with_reducible show wpAny _ _ (call (Value.builtin "len") [Value.ref _]) _ _ _); k_dflt (refine' ints_len ?k1 ?k2 ?k3 ?k4 ?_; (case k1 => k_asm); (case k2 => k_mem); (case k3 => assumption); (case k4 => omega); k_whole)))
variable {prog : Program} {w : World} {p : Program} {loose : List PySem.Str} {mean : ExcName → Option Value} {mg mb : PySem.Str → Option Value}
theorem draw_tl {news : Led} {dk sl : Addr} {M : Int} {tm : Tok} (hM : 0 < M) (hM2 : M ≤ 8) :
    TlDV prog w p loose mean mg mb 2 87 [.ref dk, .int M tm] dk sl 1 news (fun r => ∃ x t, r = .int x t ∧ 0 ≤ x ∧ x < M) := by
  w_top off
  unfold TlDV
  intro c t n us ns un' dp un cn cs a ccd cl outer A₀ base h₀ L m s Q E B F X N hne hsl hI hns hc0 hc1 T hk hd hu hret
  refine wpAny_call ?_
  k_dflt ktr_enter
  rename_i g1 L1 h1 FG1 F1 N1 B1 X1 T1
  replace F1 : Fr g1 L1 h1 (fun y => List.lookup y [(PySem.Str.ofString "many", Value.int M tm), (PySem.Str.ofString "deck", Value.ref dk)]) := F1
  k_steps
  all_goals exact hret _ _ _ (c + 1) _ n (by k_asm) (by k_asm) (by omega) (by omega) ⟨_, _, rfl, Int.fmod_nonneg_of_pos _ hM, Int.fmod_lt_of_pos _ hM⟩
section
local macro_rules | `(tactic| walk_at "call ref") => `(tactic| (k_here; k_dflt (refine' TlDV.use2 [] (draw_tl ?c1 ?c2) ?k ?_; (case k => kwd_rel); (case c1 => omega); (case c2 => omega)); intro r9 h9 tk9 c9 t9 n9 F9 N9 hc9 hd9 ho9; obtain ⟨x9, u9, hr9, hx9, hy9⟩ := ho9; subst hr9; (try simp only [List.nil_append, List.cons_append] at N9); (try dsimp only); (try k_fold)))
local macro_rules | `(tactic| walk_at "subscriptTail") => `(tactic| (k_here; (with_reducible show wpAny _ _ (subscriptTail _ _ (Value.ref _) (Value.int _ _)) _ _ _); k_dflt (refine' any_item ?k1 ?k2 ?k4 ?k5 ?k6 ?_ ?k7; (case k1 => k_asm); (case k2 => k_mem); (case k4 => omega); (case k5 => omega); (case k6 => omega); (case k7 => with_unfolding_all rfl); k_whole); intro v' hget' hmem'))

local macro_rules | `(tactic| walk_at "call builtin:len") => `(tactic| (k_here; (with_reducible show wpAny _ _ (call (Value.builtin "len") [Value.ref _]) _ _ _); k_dflt (refine' any_len ?k1 ?k2 ?k4 ?_; (case k1 => k_asm); (case k2 => k_mem); (case k4 => omega); k_whole)))
theorem pick_tl {news : Led} {dk sl il : Addr} {its : List Value} {ni : Nat} (hil : (il, listOf its.toArray ni) ∈ news) (hM : 0 < its.length) (hM2 : its.length ≤ 8) :
    TlDV prog w p loose mean mg mb 4 94 [.ref dk, .ref il] dk sl 1 news (fun r => r ∈ its) := by
  w_top off
  unfold TlDV
  intro c t n us ns un' dp un cn cs a ccd cl outer A₀ base h₀ L m s Q E B F X N hne hsl hI hns hc0 hc1 T hk hd hu hret
  refine wpAny_call ?_
  k_dflt ktr_enter
  rename_i g1 L1 h1 FG1 F1 N1 B1 X1 T1
  replace F1 : Fr g1 L1 h1 (fun y => List.lookup y [(PySem.Str.ofString "items", Value.ref il), (PySem.Str.ofString "deck", Value.ref dk)]) := F1
  k_steps
  exact hret _ _ _ _ _ _ (by k_asm) (by k_asm) (by assumption) (by assumption) (by assumption)
end
section
local macro_rules | `(tactic| walk_at "call ref") => `(tactic| (k_here; k_dflt (refine' TlDV.use2 [_] (pick_tl ?c1 ?c2 ?c3) ?k ?_; (case k => kwd_rel); (case c1 => k_mem); (case c2 => exact Nat.le_of_ble_eq_true rfl); (case c3 => exact Nat.le_of_ble_eq_true rfl)); intro r9 h9 tk9 c9 t9 n9 F9 N9 hc9 hd9 ho9; (try simp only [List.nil_append, List.cons_append] at N9); (try dsimp only); (try k_fold)))

/-- the eight values -/
theorem value_tl {news : Led} {dk sl : Addr} :
    TlDV prog w p loose mean mg mb 6 101 [.ref dk] dk sl 1 news (fun r => ∃ pv, pv ∈ vals8 ∧ VIs r pv) := by
  w_top off
  unfold TlDV
  intro c t n us ns un' dp un cn cs a ccd cl outer A₀ base h₀ L m s Q E B F X N hne hsl hI hns hc0 hc1 T hk hd hu hret
  refine wpAny_call ?_
  k_dflt ktr_enter
  rename_i g1 L1 h1 FG1 F1 N1 B1 X1 T1
  replace F1 : Fr g1 L1 h1 (fun y => List.lookup y [(PySem.Str.ofString "deck", Value.ref dk)]) := F1
  k_steps
  rename (_ : Value) ∈ (_ : List Value) => ho
  refine hret _ _ _ _ _ _ (by k_asm) (drop_news (by k_asm) (by ktr_rel)) (by assumption) (by assumption) ?_
  simp only [List.mem_cons, List.not_mem_nil, or_false] at ho
  rcases ho with e | e | e | e | e | e | e | e <;> subst e
  · exact ⟨.int 1, by simp [vals8], .int _ _⟩
  · exact ⟨.bool true, by simp [vals8], .bool _⟩
  · exact ⟨.int 0, by simp [vals8], .int _ _⟩
  · exact ⟨.bool false, by simp [vals8], .bool _⟩
  · exact ⟨.int 2, by simp [vals8], .int _ _⟩
  · exact ⟨.str (PySem.Str.ofString "a"), by simp [vals8], .str _ _⟩
  · exact ⟨.str (PySem.Str.ofString "b"), by simp [vals8], .str _ _⟩
  · exact ⟨.int (-5), by simp [vals8], .int _ _⟩
end
end

section
open PySem PySem.W PyProof.Rows PySem.Calls PySem.Spec PyProof.V
set_option Elab.async false
theorem lookup_mem {k : Int} {q : PV} : ∀ {d : List (Int × PV)}, d.lookup k = some q → (k, q) ∈ d
  | (a, b) :: r, h => by
    rw [List.lookup_cons] at h
    by_cases e : a = k
    · subst e; simp at h; subst h; exact .head _
    · have e' : (k == a) = false := by simpa using Ne.symm e
      rw [e'] at h
      exact .tail _ (lookup_mem h)
theorem mem_keys {k : Int} : ∀ {d : List (Int × PV)}, k ∈ d.map (·.1) ↔ (d.lookup k).isSome = true
  | [] => by simp
  | (a, b) :: r => by
    rw [List.map_cons, List.mem_cons, List.lookup_cons, mem_keys (d := r)]
    by_cases e : a = k
    · subst e; simp
    · have e' : (k == a) = false := by simpa using Ne.symm e
      rw [e']
      constructor
      · rintro (h | h)
        · exact absurd h.symm e
        · exact h
      · exact .inr
theorem keys_perm {d T : List (Int × PV)} (g1 : (d.map (·.1)).Nodup) (g2 : (T.map (·.1)).Nodup) (h : ∀ k, d.lookup k = T.lookup k) : (d.map (·.1)).Perm (T.map (·.1)) :=
  (List.perm_ext_iff_of_nodup g1 g2).mpr fun k => by rw [mem_keys, mem_keys, h k]
theorem sorted_eq {a b : List Int} (hp : a.Perm b) (ha : a.Pairwise (· ≤ ·)) (hb : b.Pairwise (· ≤ ·)) : a = b :=
  List.Perm.eq_of_pairwise (fun x y _ _ h1 h2 => Int.le_antisymm h1 h2) ha hb hp
theorem Good.val {d : List (Int × PV)} (g : Good d) {k : Int} {q : PV} (h : d.lookup k = some q) : q ∈ vals8 := (g.1 _ (lookup_mem h)).2.2
theorem holds_none {d : List (Int × PV)} {k : Int} {pv : PV} (h : d.lookup k = none) : holdsP d k pv = false := by unfold holdsP; rw [h]
theorem holds_some {d : List (Int × PV)} {k : Int} {q pv : PV} (h : d.lookup k = some q) : holdsP d k pv = q.eqv pv := by unfold holdsP; rw [h]
theorem fr_turn3 {h₀ h : Heap} {L : Addr} {m₀ m₁ : PySem.Str → Option Value} {v : Value} {x a b : PySem.Str} (h1 : Same [x, a, b] m₀ m₁) (F : Fr h₀ L h (fun y => if y = x then some v else m₁ y)) :
    Fr h₀ L h (fun y => if y = x then some v else if y = a then m₁ a else if y = b then m₁ b else m₀ y) := by
  have e : (fun y => if y = x then some v else if y = a then m₁ a else if y = b then m₁ b else m₀ y) = fun y => if y = x then some v else m₁ y := by
    funext y
    by_cases hx : y = x
    · simp [hx]
    · simp only [if_neg hx]
      by_cases ha : y = a
      · rw [if_pos ha, ha]
      · rw [if_neg ha]
        by_cases hb : y = b
        · rw [if_pos hb, hb]
        · rw [if_neg hb]; exact (h1 y (by simpa using ⟨hx, ha, hb⟩)).symm
  rw [e]; exact F
section
variable {prog : Program} {w : World} {p : Program} {loose : List PySem.Str} {mean : ExcName → Option Value} {mg mb : PySem.Str → Option Value}
theorem get_some {L0 news : Led} {v : Value} {k : Int} {t : Tok} {q : PV} {d : List (Int × PV)} (h1 : PL L0 v d) (hlen : d.length ≤ 1000) (hq : d.lookup k = some q) :
    Tl prog w p loose mean mg mb 4 35 [v, .int k t] L0 news (fun led r => ∃ a v, r = .ref a ∧ (a, tupOf [v]) ∈ led ∧ VIs v q) := by
  intro hs dp un cn cs a ccd cl outer A₀ base h₀ L m s Q E B F X N T hk hd hu hret
  refine get_tl h1 hlen hs dp un cn cs a ccd cl outer A₀ base h₀ L m s Q E B F X N T hk hd hu fun r tl h' tk' F' N' ab ho => hret r tl h' tk' F' N' ab ?_
  rcases ho with ⟨hn, _⟩ | ⟨pv, a', v', hs', hr, hm, hv⟩
  · rw [hq] at hn; cases hn
  · rw [hq] at hs'; cases hs'; exact ⟨a', v', hr, hm, hv⟩
theorem get_none {L0 news : Led} {v : Value} {k : Int} {t : Tok} {d : List (Int × PV)} (h1 : PL L0 v d) (hlen : d.length ≤ 1000) (hq : d.lookup k = none) :
    Tl prog w p loose mean mg mb 4 35 [v, .int k t] L0 news (fun _ r => r = .none) := by
  intro hs dp un cn cs a ccd cl outer A₀ base h₀ L m s Q E B F X N T hk hd hu hret
  refine get_tl h1 hlen hs dp un cn cs a ccd cl outer A₀ base h₀ L m s Q E B F X N T hk hd hu fun r tl h' tk' F' N' ab ho => hret r tl h' tk' F' N' ab ?_
  rcases ho with ⟨_, hr⟩ | ⟨pv, a', v', hs', hr, hm, hv⟩
  · exact hr
  · rw [hq] at hs'; cases hs'
theorem find_some {news : Led} {v : Value} {k : Int} {t : Tok} {q : PV} {d : List (Int × PV)} (h1 : PL news v d) (hlen : d.length ≤ 1000) (hq : d.lookup k = some q) :
    TlV prog w p loose mean mg mb 2 28 [v, .int k t] news (fun r => ∃ (t : Tok) (i : Nat), r = .int (i : Int) t) := by
  intro dp un cn cs a ccd cl outer A₀ base h₀ L m s Q E B F X N T hk hd hu hret
  refine find_tl h1 hlen dp un cn cs a ccd cl outer A₀ base h₀ L m s Q E B F X N T hk hd hu fun r h' tk' F' N' ho => hret r h' tk' F' N' ?_
  rcases ho with ⟨t, _, hn⟩ | ⟨t, i, pv, hr, _⟩
  · rw [hq] at hn; cases hn
  · exact ⟨t, i, hr⟩
theorem find_none {news : Led} {v : Value} {k : Int} {t : Tok} {d : List (Int × PV)} (h1 : PL news v d) (hlen : d.length ≤ 1000) (hq : d.lookup k = none) :
    TlV prog w p loose mean mg mb 2 28 [v, .int k t] news (fun r => ∃ t, r = .int (-1) t) := by
  intro dp un cn cs a ccd cl outer A₀ base h₀ L m s Q E B F X N T hk hd hu hret
  refine find_tl h1 hlen dp un cn cs a ccd cl outer A₀ base h₀ L m s Q E B F X N T hk hd hu fun r h' tk' F' N' ho => hret r h' tk' F' N' ?_
  rcases ho with ⟨t, hr, _⟩ | ⟨t, i, pv, _, _, _, hs, _⟩
  · exact ⟨t, hr⟩
  · rw [hq] at hs; cases hs
end
end

section
open PySem PySem.W PyProof.Rows PySem.Calls PySem.Spec PyProof.V
set_option Elab.async false
section
variable {prog : Program} {w : World} {A : Around} {E : Value → Shared → Prop} {s : Shared} {env : Env} {h₀ : Heap} {x : PySem.Str} {body : List Stmt} {Q : Flow → Shared → Prop}
/-- a for over a made tuple, by an invariant over the turn's number -/
theorem tup_iter {a : Addr} {vs : List Value} {nn : Nat} {m₀ : PySem.Str → Option Value} {news : Led} (J : Nat → (PySem.Str → Option Value) → Led → Prop)
    (hh : A.handled = none) (hm : (a, ({ cls := .type "tuple", data := .seq vs.toArray nn } : Obj)) ∈ news) (F : Fr h₀ env.locals s.heap m₀) (N : News h₀ env.locals s.heap news) (hj : J 0 m₀ news)
    (hjm : ∀ i m nx, J i m nx → (a, ({ cls := .type "tuple", data := .seq vs.toArray nn } : Obj)) ∈ nx)
    (turn : ∀ i v m₁ nx h tk own, vs[i]? = some v → OwnOff own (nx.map (·.1)) → J i m₁ nx → Fr h₀ env.locals h (fun y => if y = x then some v else m₁ y) → News h₀ env.locals h (nx ++ own) →
      wpAny (model prog w) A (execs body env) (InvPostG h₀ env.locals (J (i + 1)) own { s with heap := h, toks := tk } Q) E { s with heap := h, toks := tk })
    (done : ∀ m₁ nx h tk, J vs.length m₁ nx → Fr h₀ env.locals h m₁ → News h₀ env.locals h nx → Q .next { s with heap := h, toks := tk }) :
    wpAny (model prog w) A (pyIter (.ref a)) (fun it s₂ => LoopAtV prog w A h₀ env x body Q E it s₂) E s := by
  have hoa := (N _ hm).1
  have hta : s.heap.IsTuple a vs.toArray := ⟨_, hoa, rfl, nn, rfl⟩
  have hne : a ≠ s.heap.objs.size := Nat.ne_of_lt (Heap.lt_size hoa)
  have hI0 : h₀.get? s.heap.objs.size = none := next_is_new F
  have hLI : env.locals ≠ s.heap.objs.size := Nat.ne_of_lt F.ns.lt
  refine wpAny_pyIter_tuple hta ?_
  have W := Walks.tuple (prog := prog) (w := w) hh s.heap.objs.size a hne vs.toArray
  rw [List.size_toArray] at W
  refine ⟨_, _, _, vs.length, _, _, m₀, news, J, rfl, W, ?_, ?_, ?_, ⟨⟨_, Heap.get?_push_size _ rfl, rfl, rfl⟩, hta.at fun o e => Heap.get?_push_of_some _ e⟩, F.push _, (fun p hp => ⟨Heap.get?_push_of_some _ (N p hp).1, (N p hp).2⟩), hj, ?_, ?_⟩
  · intro hx
    rcases List.mem_cons.mp hx with e | hx
    · exact hLI e
    · exact (N _ hm).2.1 (List.mem_singleton.mp hx).symm
  · intro b hb
    rw [List.mem_singleton.mp hb]; exact hI0
  · intro p hp hI
    exact absurd (Heap.lt_size (N p hp).1) ((List.mem_singleton.mp hI) ▸ Nat.lt_irrefl _)
  · rintro i v m₁ nx s₁ own ⟨H, tk, rfl⟩ hin hP hJ hoff hown hget hall hst F₁ N₁
    have hv : vs[i]? = some v := by simpa using hP
    obtain ⟨⟨oI, hoI, _⟩, _⟩ := id hst
    have hIown : (s.heap.objs.size, oI) ∈ own := hall _ (.head _) hI0 _ hoI
    have hsep : OwnOff [(s.heap.objs.size, oI)] (nx.map (·.1)) := by
      intro p hp b hb e
      obtain ⟨q, hq, rfl⟩ := List.mem_map.mp hb
      rw [List.mem_singleton.mp hp] at e
      exact hoff q hq (List.mem_singleton.mpr e.symm)
    have N₂ : News h₀ env.locals H (nx ++ [(s.heap.objs.size, oI)]) := fun p hp => N₁ p ((List.mem_append.mp hp).elim (fun h => List.mem_append_right _ h) fun h => List.mem_append_left _ ((List.mem_singleton.mp h) ▸ hIown))
    refine wpAny_mono (turn i v m₁ nx H tk _ hv hsep hJ F₁ N₂) (fun f s₂ p => ?_) fun _ _ e => e
    have fin : InvEndG h₀ env.locals (J (i + 1)) [(s.heap.objs.size, oI)] { s with heap := H, toks := tk } s₂ → LoopStepU h₀ env.locals [s.heap.objs.size] own (J (i + 1)) { s with heap := H, toks := tk } .next s₂ := by
      rintro ⟨h', tk', m', news', nx', e, F', N', hn, ho, ha, hmm⟩
      refine ⟨rfl, h', tk', m', nx', e, F', fun p hp => ?_, fun p hp hq => ?_, hmm⟩
      · rcases List.mem_append.mp hp with h | h
        · rcases List.mem_cons.mp (hown p h) with h1 | h1
          · have e1 : p = (s.heap.objs.size, oI) := Prod.ext h1 (by
              have := hget p h
              rw [h1] at this
              exact (Option.some.inj (this.symm.trans hoI)))
            exact e1 ▸ N' _ (ho _ (List.mem_singleton.mpr rfl))
          · have h1 := List.mem_singleton.mp h1
            have h2 := (N₁ _ (List.mem_append_right _ (hjm _ _ _ hJ))).1
            have e1 : p = (a, ({ cls := .type "tuple", data := .seq vs.toArray nn } : Obj)) := Prod.ext h1 (by
              have := hget p h
              rw [h1] at this
              exact (Option.some.inj (this.symm.trans h2)))
            exact e1 ▸ N' _ (hn _ (hjm _ _ _ hmm))
        · exact N' p (hn p h)
      · exact ha _ (List.mem_singleton.mpr rfl) p.1 (List.mem_map.mpr ⟨p, hp, rfl⟩) (List.mem_singleton.mp hq).symm
    cases f with
    | ret v => exact .ret p
    | brk => exact .brk p
    | next => exact .next (fin p)
    | cont => exact .cont (fin p)
  · rintro h' tk m' nx F' N' _ hJ
    exact done m' nx h' tk hJ F' N'
end
/-- what the eight values show tells them apart, just as eq does -/
theorem eqv_shown {q pv : PV} (h1 : q ∈ vals8) (h2 : pv ∈ vals8) : q.eqv pv = decide (q.data.shown = pv.data.shown) := by
  simp only [vals8, List.mem_cons, List.not_mem_nil, or_false] at h1 h2
  rcases h1 with rfl | rfl | rfl | rfl | rfl | rfl | rfl | rfl <;> rcases h2 with rfl | rfl | rfl | rfl | rfl | rfl | rfl | rfl <;> decide +kernel
theorem Same.two {b b1 b2 : List PySem.Str} {m₀ m₁ m₂ : PySem.Str → Option Value} (h : Same b1 m₀ m₁) (h2 : Same b2 m₁ m₂) (s1 : ∀ x ∈ b1, x ∈ b) (s2 : ∀ x ∈ b2, x ∈ b) : Same b m₀ m₂ := fun z hz => (h2 z fun e => hz (s2 z e)).trans (h z fun e => hz (s1 z e))
theorem four {a b c d v : Value} : ∀ {i : Nat}, [a, b, c, d][i]? = some v → v = a ∨ v = b ∨ v = c ∨ v = d
  | 0, h => .inl (by simpa using h.symm)
  | 1, h => .inr (.inl (by simpa using h.symm))
  | 2, h => .inr (.inr (.inl (by simpa using h.symm)))
  | 3, h => .inr (.inr (.inr (by simpa using h.symm)))
  | i + 4, h => by simp at h
theorem four_vals {t1 t2 t3 : Tok} {v : Value} {i : Nat} (h : [Value.int 1 t1, .bool true, .int 0 t2, .str (PySem.Str.ofString "a") t3][i]? = some v) : ∃ pv, VIs v pv ∧ pv ∈ vals8 := by
  rcases four h with rfl | rfl | rfl | rfl
  · exact ⟨_, .int _ _, by simp [vals8]⟩
  · exact ⟨_, .bool _, by simp [vals8]⟩
  · exact ⟨_, .int _ _, by simp [vals8]⟩
  · exact ⟨_, .str _ _, by simp [vals8]⟩
section
variable {prog : Program} {w : World} {A : Around} {E : Value → Shared → Prop} {s : Shared} {env : Env} {h₀ : Heap} {x : PySem.Str} {body : List Stmt} {Q : Flow → Shared → Prop}
theorem tup_same {a : Addr} {vs : List Value} {nn : Nat} {m₀ : PySem.Str → Option Value} {news : Led}
    (hh : A.handled = none) (hm : (a, ({ cls := .type "tuple", data := .seq vs.toArray nn } : Obj)) ∈ news) (F : Fr h₀ env.locals s.heap m₀) (N : News h₀ env.locals s.heap news)
    (turn : ∀ (i : Nat) (v : Value) m₁ h tk own, vs[i]? = some v → OwnOff own (news.map (·.1)) → Same [x] m₀ m₁ → Fr h₀ env.locals h (fun y => if y = x then some v else m₀ y) → News h₀ env.locals h (news ++ own) →
      wpAny (model prog w) A (execs body env) (InvPostG h₀ env.locals (fun m nx => nx = news ∧ Same [x] m₀ m) own { s with heap := h, toks := tk } Q) E { s with heap := h, toks := tk })
    (done : ∀ m₁ h tk, Same [x] m₀ m₁ → Fr h₀ env.locals h m₁ → News h₀ env.locals h news → Q .next { s with heap := h, toks := tk }) :
    wpAny (model prog w) A (pyIter (.ref a)) (fun it s₂ => LoopAtV prog w A h₀ env x body Q E it s₂) E s := by
  refine tup_iter (fun _ m nx => nx = news ∧ Same [x] m₀ m) hh hm F N ⟨rfl, Same.rfl⟩ ?_ ?_ ?_
  · rintro i m nx ⟨rfl, _⟩; exact hm
  · rintro i v m₁ nx h tk own hv hoff ⟨rfl, hs⟩ F' N'
    exact turn i v m₁ h tk own hv hoff hs (fr_but hs F') N'
  · rintro m₁ nx h tk ⟨rfl, hs⟩ F' N'
    exact done m₁ h tk hs F' N'
end
theorem bne_shown {x : Bool} {a b : PySem.Str} (h : x = decide (a = b)) (h2 : (x != (a == b)) = true) : False := by
  subst h
  by_cases e : a = b
  · subst e
    have : (a == a) = true := by first | exact beq_self_eq_true a | exact decide_eq_true rfl
    rw [this] at h2; simp at h2
  · have : (a == b) = false := by first | exact beq_false_of_ne e | exact decide_eq_false e
    rw [this] at h2; simp [e] at h2
end

section
open PySem PySem.W PyProof.Rows PySem.Calls PySem.Spec
local macro_rules | `(tactic| walk_at "call builtin:sorted") => `(tactic| (k_here; (with_reducible show wpAny _ _ (call (Value.builtin _) [Value.ref _]) _ _ _); k_dflt (refine' t_sorted ?k0 ?k1 ?k2 ?k3 ?k4 ?k5 ?_; (case k0 => exact rfl); (case k1 => k_asm); (case k2 => k_asm); (case k3 => assumption); (case k4 => ktr_rel); (case k5 => omega); k_whole); intro D' h' tk' vs' ns' e' F' N' l1 I' P' O'; (try k_sweep)))
local macro_rules | `(tactic| walk_at "compareOp In int ref") => `(tactic| (k_here; k_dflt (first | (refine' t_in ?k1 ?k2 ?k3 ?k4 ?_; (case k1 => assumption); (case k3 => k_asm); (case k2 => ktr_rel); (case k4 => assumption)) | (refine' t_in_no ?k1 ?k2 ?k3 ?k4 ?_; (case k1 => assumption); (case k3 => k_asm); (case k2 => ktr_rel); (case k4 => assumption)) | (refine' t_in_b ?k1 ?k2 ?k3 ?_; (case k1 => assumption); (case k3 => k_asm); (case k2 => ktr_rel)))))
local macro_rules | `(tactic| walk_at "compareOp NotIn int ref") => `(tactic| (k_here; k_dflt (refine' t_notin_b ?k1 ?k2 ?k3 ?_; (case k1 => assumption); (case k3 => k_asm); (case k2 => ktr_rel))))
local macro_rules | `(tactic| walk_at "subscriptTail") => `(tactic| (k_here; (with_reducible show wpAny _ _ (subscriptTail _ _ (Value.ref _) (Value.int _ _)) _ _ _); k_dflt (refine' t_item ?k1 ?k2 ?k3 ?k4 ?_ ?k5 ?k6; (case k1 => assumption); (case k3 => k_asm); (case k2 => ktr_rel); (case k4 => assumption); (case k5 => with_unfolding_all rfl); (case k6 => kmk_pure); k_whole); intro v' hV'))

section
open PySem PySem.W PyProof.Rows PySem.Calls PySem.Spec
set_option Elab.async false
set_option maxRecDepth 100000
set_option maxHeartbeats 8000000
set_option pp.deepTerms.threshold 3
set_option pp.deepTerms false
theorem fill8 : ∀ (w : World) (h : Heap), PySem.Challenge.rw_ok0041_01.row.toRowW.prog = PySem.Challenge.rw_ok0041_01.prog → (Mine.hd.heap_39 w.params).In h → True := by
  k_fill
  intros
  trivial
variable {prog : Program} {w : World} {p : Program} {loose : List PySem.Str} {mean : ExcName → Option Value} {mg mb : PySem.Str → Option Value}
section
local macro_rules | `(tactic| walk_at "call ref") => `(tactic| (k_here; k_dflt (refine' TlV.use2 (holds_tl ?c1 ?c2 ?c3) ?k ?_; (case k => kwd_inv); (case c1 => exact PL.at (by assumption) (by ktr_rel)); (case c2 => assumption); (case c3 => first | assumption | exact VIs.int _ _ | exact VIs.bool _ | exact VIs.str _ _)); intro r9 h9 tk9 F9 N9 ho9; subst ho9; (try dsimp only); (try k_fold)))
local macro_rules | `(tactic| walk_at "call ref") => `(tactic| (k_here; k_dflt (refine' Tl.use2 (get_none ?c1 ?c2 ?c3) ?hs ?k ?_; (case k => kwd_inv); (case c1 => assumption); (case c3 => assumption); (case hs => ktr_rel); (case c2 => assumption)); intro r9 tl9 h9 tk9 F9 N9 hl9 ho9; subst ho9; (try dsimp only); (try k_fold)))
local macro_rules | `(tactic| walk_at "call ref") => `(tactic| (k_here; k_dflt (refine' Tl.use2 (get_some ?c1 ?c2 ?c3) ?hs ?k ?_; (case k => kwd_inv); (case c1 => assumption); (case c3 => assumption); (case hs => ktr_rel); (case c2 => assumption)); intro r9 tl9 h9 tk9 F9 N9 hl9 ho9; obtain ⟨a9, v9, hr9, hm9, hv9⟩ := ho9; subst hr9; (try dsimp only); (try k_fold)))
local macro_rules | `(tactic| walk_at "call ref") => `(tactic| (k_here; k_dflt (refine' TlV.use2 (find_none ?c1 ?c2 ?c3) ?k ?_; (case k => kwd_inv); (case c1 => exact PL.at (by assumption) (by ktr_rel)); (case c3 => assumption); (case c2 => assumption)); intro r9 h9 tk9 F9 N9 ho9; obtain ⟨t9, hr9⟩ := ho9; subst hr9; (try dsimp only); (try k_fold)))
local macro_rules | `(tactic| walk_at "call ref") => `(tactic| (k_here; k_dflt (refine' TlV.use2 (find_some ?c1 ?c2 ?c3) ?k ?_; (case k => kwd_inv); (case c1 => exact PL.at (by assumption) (by ktr_rel)); (case c3 => assumption); (case c2 => assumption)); intro r9 h9 tk9 F9 N9 ho9; obtain ⟨t9, i9, hr9⟩ := ho9; subst hr9; (try dsimp only); (try k_fold)))
local macro_rules | `(tactic| walk_at "call builtin:repr") => `(tactic| (k_here; k_dflt (first
  | (refine' r_tup ?k1 ?k2 ?k3 ?k4 ?k5 ?k6 ?k7 ?_; (case k3 => k_asm); (case k4 => k_asm); (case k5 => first | exact mem_sub (by assumption) (by ktr_rel) | k_mem); (case k1 => assumption); (case k2 => assumption); (case k6 => exact rfl); (case k7 => ktr_units); k_whole; intro h' u' tk' F' N'; (try k_sweep))
  | (refine' r_val ?k1 ?k2 ?k3 ?_; (case k1 => assumption); (case k2 => exact vals8_show (by assumption)); (case k3 => exact vals8_len (by assumption)); k_whole; intro u' tk'))))
local macro_rules | `(tactic| walk_at "eval ListComp") => `(tactic| refine stop ?_)
local macro_rules | `(tactic| walk_at "pyIter ref") => `(tactic| ((with_reducible show wpAny _ _ (pyIter (Value.ref _)) (fun it s₂ => LoopAtV _ _ _ _ _ (PySem.Str.ofString "number") _ _ _ it s₂) _ _); refine stop ?_))
local macro_rules | `(tactic| walk_at "pyIter ref") => `(tactic| ((with_reducible show wpAny _ _ (pyIter (Value.ref _)) (fun it s₂ => LoopAtV _ _ _ _ _ (PySem.Str.ofString "value") _ _ _ it s₂) _ _); refine stop ?_))
local macro_rules | `(tactic| walk_at "exec For Name Tuple cons nil") => `(tactic| (k_here; (rename Fr _ _ _ _ => lF'); (with_unfolding_all refine' For_invVF lF' ?k1 ?k2 ?_; (case k1 => exact rfl); (case k2 => exact rfl); k_whole)))
theorem like_tl {news : Led} {v u : Value} {d T : List (Int × PV)} (h1 : PL news v d) (h2 : TIn prog w news u T) (g1 : Good d) (g2 : Good T) (hag : ∀ k, d.lookup k = T.lookup k) :
    TlV prog w p loose mean mg mb 8 106 [v, u] news (fun r => r = .bool true) := by
  w_top off
  unfold TlV
  intro dp un cn cs a ccd cl outer A₀ base h₀ L m s Q E B F X N T₀ hk hd hu hret
  have h1' := h1
  have h2' := h2
  have hlen : d.length ≤ 1000 := Nat.le_trans g1.len (by decide)
  have hlenT : T.length ≤ 5 := g2.len
  obtain ⟨hl, hp⟩ := h1
  obtain ⟨td, to, tkvs, rfl, -⟩ := h2
  refine wpAny_call ?_
  k_dflt ktr_enter
  rename_i l vs nn g1' L1 h1 FG1 F1 N1 B1 X1 T1
  replace F1 : Fr g1' L1 h1 (fun y => List.lookup y [(PySem.Str.ofString "table", Value.ref td), (PySem.Str.ofString "plist", Value.ref l)]) := F1
  have hvl : vs.length ≤ 1000 := by rw [hp.length]; exact hlen
  have hvs : vs.toArray.size ≤ sizeLine := by rw [List.size_toArray]; exact Nat.le_trans hvl (by decide)
  k_steps
  refine Stop.mk ?_
  refine LCp.ListComp_P (F₀ := by k_asm) (by with_unfolding_all rfl) (by decide) (by rfl) (by decide) (by rfl) (by rfl) (by decide) ?_
  k_steps
  refine Stop.mk (LCp.SrcLP.ledger rfl (by k_asm) (by k_asm) (by k_mem) hvs (fun g => ?_))
  rw [List.size_toArray]
  refine comp_pairs (.inr ⟨_, hl, rfl, _, rfl⟩) hp ?_ ?_ _ 0 [] (by omega) .nil
  · intro i k t v pv I oI C oC D ys m₂ h tk E' Q' hget hV hC hx hy F2 N2 hQ
    k_steps
    exact hQ _
  · intro ys hI
    unfold LCg.FinE
    intro D h tk F2 N2 o2
    have h64 : (d.map (·.1)).length < 64 := by rw [List.length_map]; have := g1.len; omega
    k_steps
    · refine Stop.mk ?_
      refine rng_iter (n := 5) (news := news) (fun i m₁ nx => news = nx ∧ Same [PySem.Str.ofString "number", PySem.Str.ofString "due", PySem.Str.ofString "value"] (fun y => List.lookup y [(PySem.Str.ofString "table", Value.ref td), (PySem.Str.ofString "plist", Value.ref l)]) m₁) (by assumption) rfl rfl (by decide) (by assumption) (drop_news (by k_asm) (by ktr_rel)) ⟨rfl, Same.rfl⟩ ?_ ?_
      · rintro i t₁ m₁ nx h tk own hi hoff ⟨hnx, hm⟩ F₁ N₁
        subst hnx
        replace F₁ := fr_turn3 hm F₁
        have hb0 : (0 : Int) ≤ (i : Int) := by omega
        have hb5 : (i : Int) < 5 := by omega
        cases hlk : T.lookup (i : Int) with
        | none =>
          have hdk := (hag (i : Int)).trans hlk
          k_steps
          refine Stop.mk ?_
          refine' tup_same rfl ?hm ?hF ?hN ?_ ?_
          case hF => k_asm
          case hN => k_asm
          case hm => exact .head _
          · intro j v m₂ h tk own2 hv hoff2 hs2 F₂ N₂
            obtain ⟨pv, hV, hp8⟩ := four_vals hv
            have hh : holdsP d (i : Int) pv = false := holds_none hdk
            k_steps
            · exfalso; simp_all
            · exact InvEndG.intro (by k_asm) (by k_asm) ⟨rfl, by tb_rel⟩ (by assumption) (by ktr_rel) (by ktr_rel)
          · intro m₂ h tk hs2 F₂ N₂
            dsimp only
            refine wpAny_execs_nil ?_
            exact InvEndG.intro F₂ (by k_asm) (nx := news) ⟨rfl, Same.two (b1 := [PySem.Str.ofString "number", PySem.Str.ofString "due", PySem.Str.ofString "value"]) (by tb_rel) hs2 (fun _ h => h) (by decide)⟩ (by assumption) (by ktr_rel) (by ktr_rel)
        | some q =>
          have hdk := (hag (i : Int)).trans hlk
          have hq := g2.val hlk
          k_steps
          · exfalso; simp_all
          · exfalso; simp_all
          refine Stop.mk ?_
          refine' tup_same rfl ?hm ?hF ?hN ?_ ?_
          case hF => k_asm
          case hN => k_asm
          case hm => exact .head _
          · intro j v m₂ h tk own2 hv hoff2 hs2 F₂ N₂
            obtain ⟨pv, hV, hp8⟩ := four_vals hv
            have hh : holdsP d (i : Int) pv = decide (q.data.shown = pv.data.shown) := (holds_some hdk).trans (eqv_shown hq hp8)
            k_steps
            · exact (bne_shown hh (by assumption)).elim
            · exact InvEndG.intro (by k_asm) (by k_asm) ⟨rfl, by tb_rel⟩ (by assumption) (by ktr_rel) (by ktr_rel)
          · intro m₂ h tk hs2 F₂ N₂
            dsimp only
            refine wpAny_execs_nil ?_
            exact InvEndG.intro F₂ (by k_asm) (nx := news) ⟨rfl, Same.two (b1 := [PySem.Str.ofString "number", PySem.Str.ofString "due", PySem.Str.ofString "value"]) (by tb_rel) hs2 (fun _ h => h) (by decide)⟩ (by assumption) (by ktr_rel) (by ktr_rel)
      · rintro m₁ nx h tk ⟨hnx, hm⟩ F₁ N₁
        subst hnx
        k_steps
        exact hret _ _ _ (by k_asm) (by k_asm) rfl
    · exfalso
      rename ¬ _ = _ => hne
      rename List.Perm _ (T.map _) => hp2
      rename List.Perm _ (d.map _) => hp1
      exact hne (sorted_eq (hp1.trans ((keys_perm g1.2 g2.2 hag).trans hp2.symm)) (by assumption) (by assumption))
end
end

section
open PySem PySem.W PyProof.Rows PySem.Calls PySem.Spec PyProof.V
set_option Elab.async false
set_option maxRecDepth 100000
theorem keys_miss : typeLookup (.type "list") "keys" = pure none := am_miss_of_fast (by kernel_rfl)
section
variable {prog : Program} {w : World} {A : Around} {E : Value → Shared → Prop} {s : Shared}
theorem list_no_keys {a : Addr} {xs : Array Value} {k : Nat} {Q : Option Value → Shared → Prop}
    (hx : s.heap.get? a = some { cls := .type "list", dict := none, data := .seq xs k, slots := #[] }) (hA : A.handled = none)
    (h : ∀ h' tk, (∀ b o, s.heap.get? b = some o → h'.get? b = some o) → Q none { s with heap := h', toks := tk }) :
    wpAny (model prog w) A (getAttr? (.ref a) "keys") Q E s := by
  obtain ⟨hp, g, d, tk, os⟩ := s
  have hT : ∀ tk', (⟨hp, g, d, tk', os⟩ : Shared).TypeIs (.ref a) "list" := fun _ => ⟨_, hx, rfl⟩
  have f1 := sub_AttributeError
  have f3 := F.slot_list_getattribute.lookup
  have f4 := F.slot_list_getattribute.bind (.ref a)
  have f5 := am_list_getattr_none
  unfold getAttr? getAttrBy? getAttrBy
  repeat (any_goals (first | assumption | exact hT _ | ((with_reducible show wpAny _ _ (call (Value.builtin "list.__getattribute__") _ _) _ _ _); refine call_meets F.slot_list_getattribute (hT _) am_entry_list_getattribute (F.args_list_getattribute_2 _ _) (meets_getattribute_miss_list a xs k _ "keys" _ keys_miss (by decide +kernel) (by decide +kernel)) ⟨hx, hA, fun h' tk' e hx' => ?_⟩) | wp_step))
  obtain ⟨t', u', he⟩ := hx'.there
  show wpAny _ _ (getattributeRaised _ _ _ _ _ _ _) _ _ _
  unfold getattributeRaised
  repeat (any_goals (first | assumption | wp_step))
  exact h _ _ hx'.keeps
end
theorem dictOf_at {prog : Program} {w : World} {h h' : Heap} {d : Addr} {kvs : List (Int × Value)} (x : h.DictOf (intKind prog w) d kvs) (e : ∀ o, h.get? d = some o → h'.get? d = some o) : h'.DictOf (intKind prog w) d kvs := let ⟨o, es, ep, ho, r⟩ := x; ⟨o, es, ep, e _ ho, r⟩
theorem entry_upd_loop : entryFor table "dict.update.loop" = some Builtin.«dict.update.loop» := entryFor_of_tree (by kernel_rfl)
theorem plain_upd_loop : plainId "dict.update.loop" = true := by decide +kernel
section
variable {prog : Program} {w : World} {A : Around} {E : Value → Shared → Prop}
theorem upd_loop {R : Result → Shared → Prop} {I l d : Addr} {vs : List Value} {ps : List (Int × Value)} (hh : A.handled = none) (hdI : d ≠ I) (hdl : d ≠ l) (hlI : l ≠ I) (hlen : vs.length = ps.length) :
    ∀ (k i : Nat) (s : Shared) (cur : List (Int × Value)) (t : Tok), ps.length - i = k → i ≤ ps.length → s.heap.IsListIter I l i → s.heap.IsList l vs.toArray →
      (∀ j q, i ≤ j → ps[j]? = some q → ∃ a t, vs[j]? = some (.ref a) ∧ a ≠ d ∧ a ≠ I ∧ s.heap.IsTuple a #[.int q.1 t, q.2]) →
      s.heap.DictOf (intKind prog w) d cur → cur.length + k ≤ sizeLine →
      (∀ h' tk, h'.DictOf (intKind prog w) d ((ps.drop i).foldl (fun c q => stored c q.1 q.2) cur) → (∀ b o, b ≠ I → b ≠ d → s.heap.get? b = some o → h'.get? b = some o) → R (.ok (.ret .none)) { s with heap := h', toks := tk }) →
      codeAny (model prog w) A (.builtin "dict.update.loop" ⟨[.ref d, .ref I, .int (i : Int) t, .none], []⟩) R s := by
  intro k
  induction k with
  | zero =>
    intro i s cur t hk hi hit hl hp hd hsz hR
    have hin : i = ps.length := by omega
    subst hin
    refine codeAny_builtin entry_upd_loop ?_
    rw [Around.under_plainId plain_upd_loop _]
    show wpAny _ A.in1 (pyNext (.ref I) >>= _) _ _ s
    refine wpAny_bind (wpAny_pyNext_list_end hh hit hl (by simp [← hlen]) fun h₁ he₁ => ?_)
    show wpAny _ _ (Builtin.Dict.addKeywords d [] >>= _) _ _ _
    refine wpAny_bind (wpAny_pure (wpAny_pure ?_))
    rw [List.drop_length] at hR
    exact hR h₁ _ (dictOf_at hd fun o e => he₁ d o hdI e) fun b o hb _ e => he₁ b o hb e
  | succ k ih =>
    intro i s cur t hk hi hit hl hp hd hsz hR
    have hlt : i < ps.length := by omega
    have hq := List.getElem?_eq_getElem hlt
    obtain ⟨a, t', hv, had, haI, hta⟩ := hp i _ (Nat.le_refl _) hq
    refine codeAny_builtin entry_upd_loop ?_
    rw [Around.under_plainId plain_upd_loop _]
    show wpAny _ A.in1 (pyNext (.ref I) >>= _) _ _ s
    refine wpAny_bind (wpAny_pyNext_list_item hit hl (x := .ref a) (by simpa using hv) fun h₁ hit₁ hs₁ => ?_)
    replace hs₁ : Heap.SameBut I s.heap h₁ := hs₁
    obtain ⟨oa, hoa, hca, na, hda⟩ := hta
    have hoa₁ : h₁.get? a = some oa := hs₁.extBut _ _ haI hoa
    have hd₁ : h₁.DictOf (intKind prog w) d cur := dictOf_at hd fun o e => hs₁.extBut _ _ hdI e
    have hta₁ : ({ s with heap := h₁ } : Shared).TypeIs (.ref a) "tuple" := ⟨oa, hoa₁, hca⟩
    refine wpAny_bind (wpAny_holding (wpAny_bind (wpAny_tryCatch ?_)))
    unfold Builtin.Dict.pairItems
    refine wpAny_bind (wpAny_typeOf hta₁ ?_)
    simp only [show (Value.type "tuple" == Value.type "list") = false by decide, show (Value.type "tuple" == Value.type "tuple") = true by decide, Bool.or_true, if_true]
    unfold seqItems?
    refine wpAny_bind (wpAny_bind (wpAny_load hoa₁ ?_))
    rw [hda]
    refine wpAny_pure (wpAny_pure ?_)
    show wpAny _ _ (holding [_, _] (dictSet d (.int ps[i].1 t') ps[i].2)) _ _ _
    refine wpAny_holding (wpAny_dictSet_pairs (knd := intKind prog w) (intKind_is prog w _ _) hd₁ (fun h₂ hd₂ hs₂ => ?_) (by omega))
    replace hs₂ : Heap.SameBut d h₁ h₂ := hs₂
    refine wpAny_pure ⟨plainId_quiet plain_upd_loop _, ?_⟩
    have up : ∀ b o, b ≠ I → b ≠ d → s.heap.get? b = some o → h₂.get? b = some o := fun b o hb hb' e => hs₂.extBut _ _ hb' (hs₁.extBut _ _ hb e)
    have e0 : rawInt ((i : Int) + 1) = Value.int ((i + 1 : Nat) : Int) 0 := by simp [rawInt]
    rw [e0]
    refine ih (i + 1) { s with heap := h₂, toks := s.toks + 1 } (stored cur ps[i].1 ps[i].2) 0 (by omega) hlt ?_ ?_ ?_ hd₂ ?_ ?_
    · obtain ⟨oI, h1, h2⟩ := hit₁
      exact ⟨oI, hs₂.extBut _ _ (Ne.symm hdI) h1, h2⟩
    · obtain ⟨ol, h1, h2⟩ := hl
      exact ⟨ol, up _ _ hlI (Ne.symm hdl) h1, h2⟩
    · intro j q hj hjq
      obtain ⟨a2, t2, e1, e2, e3, o2, e4, e5⟩ := hp j q (by omega) hjq
      exact ⟨a2, t2, e1, e2, e3, o2, up _ _ e3 e2 e4, e5⟩
    · have := stored_length_le cur ps[i].1 ps[i].2
      omega
    · intro h' tk hD hk'
      refine hR h' tk ?_ fun b o hb hb' e => hk' b o hb hb' (up b o hb hb' e)
      rw [List.drop_eq_getElem_cons hlt]
      exact hD
end
section
variable {prog : Program} {w : World} {A : Around} {E : Value → Shared → Prop} {s : Shared}
theorem call_dict_list {l : Addr} {vs : List Value} {n : Nat} {ps : List (Int × Value)} {Q : Value → Shared → Prop} (hl : s.heap.get? l = some (listOf vs.toArray n))
    (hp : ∀ (j : Nat) (q : Int × Value), ps[j]? = some q → ∃ a t, vs[j]? = some (.ref a) ∧ s.heap.IsTuple a #[.int q.1 t, q.2]) (hlen : vs.length = ps.length) (hA : A.handled = none) (hsz : ps.length ≤ sizeLine)
    (hQ : ∀ h' tk, h'.DictOf (intKind prog w) s.heap.objs.size (ps.foldl (fun c q => stored c q.1 q.2) []) → (∀ b o, s.heap.get? b = some o → h'.get? b = some o) → Q (.ref s.heap.objs.size) { s with heap := h', toks := tk }) :
    wpAny (model prog w) A (call (.type "dict") [.ref l]) Q E s := by
  refine callType_codes (Q₁ := fun obj s₁ => obj = .ref s.heap.objs.size ∧ s₁ = { s with heap := s.heap.push { cls := .type "dict", data := .dict #[] } }) F.kt_called_dict (F.kt_typeCall_dict_1 _) F.entry_dict_init (kt_code_dict_new _ ⟨rfl, rfl⟩) ?_
  rintro obj s₁ ⟨rfl, rfl⟩
  have hnew : (s.heap.push { cls := .type "dict", data := .dict #[] }).DictOf (intKind prog w) s.heap.objs.size [] := Heap.DictOf.new s.heap
  have hl₁ : (s.heap.push { cls := .type "dict", data := .dict #[] }).get? l = some (listOf vs.toArray n) := Heap.get?_push_of_some _ hl
  have hT : ({ s with heap := s.heap.push { cls := .type "dict", data := .dict #[] } } : Shared).TypeIs (.ref l) "list" := ⟨_, hl₁, rfl⟩
  refine ⟨hnew.typeIs, F.args_dict_init_2 _ _, ?_⟩
  unfold Builtin.«dict.__init__»
  refine wpAny_bind ?_
  unfold Builtin.Dict.selfAndRest
  refine wpAny_bind (wpAny_notOrdered_dict hnew.typeIs ?_)
  show wpAny _ _ (pure (s.heap.objs.size, [Value.ref l])) _ _ _
  refine wpAny_pure ?_
  show wpAny _ _ (Builtin.Dict.updateFrom "dict.__init__" s.heap.objs.size (.ref l) [] .none) _ _ _
  unfold Builtin.Dict.updateFrom
  refine wpAny_bind (wpAny_typeOf hT ?_)
  rw [if_pos (by decide)]
  refine wpAny_bind (list_no_keys hl₁ hA fun h₂ tk up₂ => ?_)
  have hl₂ : h₂.IsList l vs.toArray := ⟨_, up₂ _ _ hl₁, rfl, n, rfl⟩
  rw [if_pos (show (none : Option Value).isNone = true from rfl)]
  refine wpAny_bind (wpAny_rule ?_)
  refine wpAny_bind (wpAny_pyIter_list hl₂ ?_)
  refine wpAny_pure ⟨plainId_quiet plain_upd_loop _, ?_⟩
  have hlt₁ : l < h₂.objs.size := Heap.lt_size (up₂ _ _ hl₁)
  have hd₂ : h₂.DictOf (intKind prog w) s.heap.objs.size [] := dictOf_at hnew fun o e => up₂ _ _ e
  have hdlt : s.heap.objs.size < h₂.objs.size := by
    obtain ⟨_, _, _, e, _⟩ := hd₂
    exact Heap.lt_size e
  have up : ∀ b o, s.heap.get? b = some o → (h₂.push { cls := .type "list_iterator", data := .fields #[.ref l, .int 0 0] }).get? b = some o := fun b o e => Heap.get?_push_of_some _ (up₂ _ _ (Heap.get?_push_of_some _ e))
  refine upd_loop (A := A.in1) (vs := vs) (ps := ps) (l := l) hA (Nat.ne_of_lt hdlt) (Nat.ne_of_gt (Heap.lt_size hl)) (Nat.ne_of_lt hlt₁) hlen ps.length 0 _ [] 0 rfl (Nat.zero_le _) ⟨_, Heap.get?_push_size _ rfl, rfl, rfl⟩ ⟨_, Heap.get?_push_of_some _ (up₂ _ _ hl₁), rfl, n, rfl⟩ ?_ ?_ (by simpa using hsz) ?_
  · intro j q _ hq
    obtain ⟨a, t, hv, o, ho, hr⟩ := hp j q hq
    exact ⟨a, t, hv, Nat.ne_of_lt (Heap.lt_size ho), Nat.ne_of_lt (Nat.lt_trans (Heap.lt_size ho) hdlt), o, up _ _ ho, hr⟩
  · exact dictOf_at hd₂ fun o e => Heap.get?_push_of_some _ e
  · intro h' tk' hD hk
    rw [List.drop_zero] at hD
    refine ⟨rfl, hQ h' tk' hD fun b o e => hk b o (Nat.ne_of_lt (Nat.lt_trans (Heap.lt_size e) hdlt)) (Nat.ne_of_lt (Heap.lt_size e)) (up b o e)⟩
end
theorem stored_fold : ∀ (ps cur : List (Int × Value)), ((cur ++ ps).map (·.1)).Nodup → ps.foldl (fun c q => stored c q.1 q.2) cur = cur ++ ps
  | [], cur, _ => by simp
  | (k, v) :: r, cur, hn => by
    have hnk : ∀ q ∈ cur, q.1 ≠ k := by
      intro q hq e
      rw [List.map_append, List.nodup_append] at hn
      exact hn.2.2 q.1 (List.mem_map.mpr ⟨q, hq, rfl⟩) k (by simp) e
    have e : stored cur k v = cur ++ [(k, v)] := by
      unfold stored
      rw [if_neg]
      intro h
      obtain ⟨q, hq, e⟩ := List.any_eq_true.mp h
      exact hnk q hq (by simpa using e)
    rw [List.foldl_cons]
    show r.foldl _ (stored cur k v) = _
    rw [e, stored_fold r _ (by simpa using hn)]
    simp
theorem pairs_split {led : Led} {vs : List Value} {T : List (Int × PV)} (h : PairsIn led vs T) : ∃ ps : List (Int × Value), vs.length = ps.length ∧ FlatPairs PyData.int ps (toD T) ∧ ps.map (·.1) = T.map (·.1) ∧ ∀ (j : Nat) (q : Int × Value), ps[j]? = some q → ∃ a t, vs[j]? = some (.ref a) ∧ (a, tupOf [.int q.1 t, q.2]) ∈ led := by
  induction h with
  | nil => exact ⟨[], rfl, .nil, rfl, fun j q hq => by simp at hq⟩
  | cons hp _ ih =>
    obtain ⟨ps, h1, h2, h3, h4⟩ := ih
    obtain @⟨a, k, t, v, pv, hm, hv⟩ := hp
    refine ⟨(k, v) :: ps, by simp [h1], .cons hv.flat h2, by simp [h3], fun j q hq => ?_⟩
    cases j with
    | zero => simp at hq; subst hq; exact ⟨a, t, rfl, hm⟩
    | succ j => obtain ⟨a', t', e1, e2⟩ := h4 j q (by simpa using hq); exact ⟨a', t', by simpa using e1, e2⟩
section
variable {prog : Program} {w : World} {A : Around} {E : Value → Shared → Prop} {s : Shared} {h₀ : Heap} {L : Addr} {m : PySem.Str → Option Value} {news L9 : Led}
theorem t_of_pairs {v : Value} {T : List (Int × PV)} {Q : Value → Shared → Prop} (hh : A.handled = none) (F : Fr h₀ L s.heap m) (N : News h₀ L s.heap news) (hbig : h₀.NoLimit) (hv : PL L9 v T) (hs : ∀ p ∈ L9, p ∈ news) (hn : (T.map (·.1)).Nodup) (hsz : T.length ≤ 1000)
    (k : ∀ d o h' tk, Fr h₀ L h' m → News h₀ L h' ((d, o) :: news) → (∀ p ∈ news, p.1 < d) → TIn prog w ((d, o) :: news) (.ref d) T → Q (.ref d) { s with heap := h', toks := tk }) :
    wpAny (model prog w) A (call (.type "dict") [v]) Q E s := by
  obtain ⟨hm, hp⟩ := hv
  obtain ⟨ps, h1, h2, h3, h4⟩ := pairs_split hp
  have hlp : ps.length = T.length := by have := congrArg List.length h3; simpa using this
  refine call_dict_list (ps := ps) (N _ (hs _ hm)).1 (fun j q hq => ?_) h1 hh (Nat.le_trans (by omega : ps.length ≤ 1000) (by decide)) fun h' tk hD hk => ?_
  · obtain ⟨a, t, e1, e2⟩ := h4 j q hq
    exact ⟨a, t, e1, _, (N _ (hs _ e2)).1, rfl, _, rfl⟩
  · rw [stored_fold ps [] (by simpa [h3] using hn), List.nil_append] at hD
    obtain ⟨o, ho, hd⟩ := Heap.dictOf_iff.mp hD
    refine k _ o h' tk (F.keeps hk) (news_pushed F N hk ho rfl) (fun p hp => Heap.lt_size (N p hp).1) ⟨_, o, ps, rfl, .head _, F.notModules (modules_low hbig), hd, h2⟩
end
end

section
open PySem PySem.W PyProof.Rows PySem.Calls PySem.Spec PyProof.V
set_option Elab.async false
set_option maxRecDepth 100000
def KeyAt (T : List (Int × PV)) (i : Nat) (v : Value) : Prop := ∃ k q t, T[i]? = some (k, q) ∧ v = .int k t
/-- what a comprehension over a table asks of its source -/
def SrcD (prog : Program) (w : World) (A : Around) (h₀ : Heap) (L : Addr) (m : PySem.Str → Option Value) (env : Env) (ct elt : Expr) (x : PySem.Str) (scope : Scope) (cl : List (PySem.Str × Addr)) (Fin : Shared → List Value → List (Addr × Obj) → Prop) (xv : Value) (s₁ : Shared) : Prop :=
  ∃ (d : Addr) (o : Obj) (kvs : List (Int × Value)) (T : List (Int × PV)) (news : Led), xv = .ref d ∧ A.handled = none ∧ Fr h₀ L s₁.heap m ∧ News h₀ L s₁.heap news ∧ (d, o) ∈ news ∧ (d == sysModules) = false ∧ o.IsDictOf (intKind prog w) kvs ∧ FlatPairs PyData.int kvs (toD T) ∧ T.length ≤ 1000 ∧
    ∀ g, LCt.CompRestT prog w A h₀ L m env ct elt x scope cl { s₁ with heap := g } (fun nw => (d, o) ∈ nw) (KeyAt T) (Fin { s₁ with heap := g }) T.length 0 [] news
section
variable {prog : Program} {w : World} {A : Around} {E : Value → Shared → Prop} {s : Shared} {h₀ : Heap} {L : Addr} {m : PySem.Str → Option Value} {env : Env}
theorem comp_mono {ct elt : Expr} {x : PySem.Str} {scope : Scope} {cl : List (PySem.Str × Addr)} {S : Led → Prop} {P P' : Nat → Value → Prop} {Fin : List Value → Led → Prop} (hP : ∀ i v, P' i v → P i v) :
    ∀ k i ys news, LCt.CompRestT prog w A h₀ L m env ct elt x scope cl s S P Fin k i ys news → LCt.CompRestT prog w A h₀ L m env ct elt x scope cl s S P' Fin k i ys news
  | 0, i, ys, news, h => h
  | k + 1, i, ys, news, h => by
    refine LCt.CompRestT.succ ?_
    intro v I oI C oC D m₂ h' tk E' hv hC hx F N off ne
    refine wpAny_mono (h v I oI C oC D m₂ h' tk E' (hP _ _ hv) hC hx F N off ne) (fun ok s' => ?_) fun _ _ e => e
    cases ok with
    | true =>
      simp only [if_true]
      intro h2
      refine wpAny_mono h2 (fun y s₂ => ?_) fun _ _ e => e
      rintro ⟨h3, tk3, nw, e, F3, N3, o3, S3, R3⟩
      exact ⟨h3, tk3, nw, e, F3, N3, o3, S3, comp_mono hP k (i + 1) _ nw R3⟩
    | false =>
      simp only [Bool.false_eq_true, if_false]
      rintro ⟨h3, tk3, nw, e, F3, N3, o3, S3, R3⟩
      exact ⟨h3, tk3, nw, e, F3, N3, o3, S3, comp_mono hP k (i + 1) _ nw R3⟩
theorem ListComp_D {ct elt iter : Expr} {x : PySem.Str} {px : Pos} {scope : Scope} {cl : List (PySem.Str × Addr)} {pos : Pos} {Q : Value → Shared → Prop} (F₀ : Fr h₀ L s.heap m)
    (hclos : closureFor scope env = pure cl) (hcell : ∀ y ∈ scope.names, y.2 ≠ .cell) (hkind : scope.kind = .function)
    (hnames : ∀ y ∈ scope.names, y.2 = .local → scope.names.lookup y.1 = some .local) (hx : scope.names.lookup x = some .local)
    (h : wpAny (model prog w) A (eval iter env) (SrcD prog w A h₀ L m env ct elt x scope cl (fun s₂ => LCg.FinE h₀ L m s₂ Q)) E s)
    (hs : ∀ x, foldedSetIterable iter env x = pure x := by intro _; rfl) :
    wpAny (model prog w) A (eval (.ListComp elt [⟨.Name x px, iter, [ct], 0⟩] scope pos) env) Q E s := by
  rw [eval_ListComp]
  refine wpAny_comprehension_free (use := none) rfl hs hclos hkind hnames (wpAny_mono h (fun xv s₁ h₁ => ?_) fun _ _ e => e)
  obtain ⟨d, o, kvs, T, news, rfl, hh, F, N, hm, lo, hd, hf, hsz, R⟩ := h₁
  have hk := flat_keys hf
  have hlen : kvs.length = T.length := by
    have := congrArg List.length hk
    simpa using this
  have ho := (N _ hm).1
  obtain ⟨es, ep, hrest⟩ := id hd
  have hat : ∀ h' : Heap, h'.get? d = some o → h'.DictAt (intKind prog w) d kvs ep := fun h' e => ⟨o, es, e, hrest⟩
  have hlt : d < s₁.heap.objs.size := Heap.lt_size ho
  refine wpAny_pyIter_dict lo (hat _ ho) ?_
  have up : ∀ b o', s₁.heap.get? b = some o' → (s₁.heap.push { cls := .type "dict_keyiterator", data := .fields #[.ref d, .int 0 0, .int kvs.length 0, .int ep 0] }).get? b = some o' := fun b o' e => Heap.get?_push_of_some _ e
  refine LCt.block_T (Fin := LCg.FinE h₀ L m { s₁ with heap := s₁.heap.push { cls := .type "dict_keyiterator", data := .fields #[.ref d, .int 0 0, .int kvs.length 0, .int ep 0] } } Q) (S := fun nw => (d, o) ∈ nw) (Walks.dictKeys hh s₁.heap.objs.size d (Nat.ne_of_lt hlt) kvs ep) (Nat.le_trans (by omega : kvs.length ≤ 1000) (by decide)) (fun i h st => by obtain ⟨o', e, _⟩ := st.1; exact ⟨o', e⟩) ?_ hcell hkind hx ⟨⟨_, Heap.get?_push_size _ rfl, rfl, rfl⟩, (hat _ ho).push _⟩ (fun b hb => ?_)
    (F.keeps up) (N.grown up) (Nat.ne_of_lt F.ns.lt) (next_is_new F) (fun p hp => Nat.ne_of_lt (Heap.lt_size (N p hp).1)) hm ?_ ?_
  · intro i h h' o' nw st e e' k' N' S'
    refine ⟨?_, hat _ (N' _ S').1⟩
    obtain ⟨o2, q, r⟩ := st.1
    rw [e] at q; cases q
    exact ⟨_, e', r⟩
  · show b < (s₁.heap.push _).objs.size
    rw [Heap.size_push]
    rcases List.mem_cons.mp hb with rfl | hb
    · exact Nat.lt_succ_self _
    · rw [List.mem_singleton.mp hb]; exact Nat.lt_succ_of_lt hlt
  · rw [hlen]
    refine comp_mono ?_ _ _ _ _ (R _)
    rintro i v ⟨k, y, hg, hi⟩
    obtain ⟨t, rfl⟩ := Value.isInt_shape hi
    have h1 : (kvs.map (·.1))[i]? = some k := by rw [List.getElem?_map, hg]; rfl
    rw [hk, List.getElem?_map] at h1
    cases hT : T[i]? with
    | none => rw [hT] at h1; cases h1
    | some q => rw [hT] at h1; cases h1; exact ⟨q.1, q.2, t, hT, rfl⟩
  · intro D C h tk m' ys news' F' N' o1 hn hC₀ hD₀ hCL hDL hCD offC fin
    refine ⟨m', hn, fun h'' hs'' => fin D h'' tk (F'.change hs'' hCL hC₀) (fun p hp => ?_) o1⟩
    refine ⟨hs''.extBut _ _ ?_ (N' p hp).1, (N' p hp).2⟩
    rcases List.mem_cons.mp hp with rfl | hp
    · exact Ne.symm hCD
    · exact offC p hp
/-- the keys that pass -/
theorem comp_keys {ct elt : Expr} {x : PySem.Str} {scope : Scope} {cl : List (PySem.Str × Addr)} {S : Led → Prop} {Fin : List Value → Led → Prop} {news : Led} {T : List (Int × PV)} (tst : Int → Bool)
    (hS : S news)
    (ht : ∀ (i : Nat) k q t I oI C oC D ys m₂ h tk (E' : Value → Shared → Prop) (Q' : Bool → Shared → Prop), T[i]? = some (k, q) → LCg.NsObj oC m₂ → m₂ x = some (.int k t) → Fr h₀ L h m → News h₀ L h ((I, oI) :: (C, oC) :: (D, LCg.lst ys) :: news) → (∀ tk', Q' (tst k) { s with heap := h, toks := tk' }) →
      wpAny (model prog w) A (isTrue ct (compEnvC scope cl C env) (eval ct (compEnvC scope cl C env))) Q' E' { s with heap := h, toks := tk })
    (he : ∀ (i : Nat) k q t I oI C oC D ys m₂ h tk (E' : Value → Shared → Prop) (Q' : Value → Shared → Prop), T[i]? = some (k, q) → LCg.NsObj oC m₂ → m₂ x = some (.int k t) → Fr h₀ L h m → News h₀ L h ((I, oI) :: (C, oC) :: (D, LCg.lst ys) :: news) → (∀ tk', Q' (.int k t) { s with heap := h, toks := tk' }) →
      wpAny (model prog w) A (eval elt (compEnvC scope cl C env)) Q' E' { s with heap := h, toks := tk })
    (hf : ∀ ys, IntsAre ys ((T.map (·.1)).filter tst) → Fin ys news) :
    ∀ k i ys, i + k = T.length → IntsAre ys (((T.take i).map (·.1)).filter tst) → LCt.CompRestT prog w A h₀ L m env ct elt x scope cl s S (KeyAt T) Fin k i ys news
  | 0, i, ys, hk, hi => by
    refine LCt.CompRestT.zero (hf ys ?_)
    rw [List.take_of_length_le (by omega)] at hi
    exact hi
  | k + 1, i, ys, hk, hi => by
    refine LCt.CompRestT.succ ?_
    intro v I oI C oC D m₂ h tk E' hP hC hx F N off ne
    obtain ⟨kk, q, t, hT, rfl⟩ := hP
    have hnext : ((T.take (i + 1)).map (·.1)).filter tst = ((T.take i).map (·.1)).filter tst ++ (if tst kk then [kk] else []) := by
      rw [List.take_add_one, hT]
      simp only [Option.toList_some, List.map_append, List.filter_append, List.map_cons, List.map_nil]
      congr 1
      cases h9 : tst kk <;> simp [h9]
    refine ht i kk q t I oI C oC D ys m₂ h tk E' _ hT hC hx F N fun tk' => ?_
    cases htst : tst kk with
    | true =>
      simp only [if_true]
      refine he i kk q t I oI C oC D ys m₂ h tk' E' _ hT hC hx F N fun tk'' => ?_
      refine LCg.CompEnd.intro (s₁ := { s with heap := h, toks := tk }) F N news (fun _ h => h) off hS ?_
      refine comp_keys tst hS ht he hf k (i + 1) _ (by omega) ?_
      rw [hnext, htst]
      exact IntsAre.snoc hi kk t
    | false =>
      simp only [Bool.false_eq_true, if_false]
      refine LCg.CompEnd.intro (s₁ := { s with heap := h, toks := tk }) F N news (fun _ h => h) off hS ?_
      refine comp_keys tst hS ht he hf k (i + 1) _ (by omega) ?_
      rw [hnext, htst]
      simpa using hi
/-- the pairs that pass -/
theorem comp_own {ct elt : Expr} {x : PySem.Str} {scope : Scope} {cl : List (PySem.Str × Addr)} {S : Led → Prop} {Fin : List Value → Led → Prop} {news : Led} {T : List (Int × PV)} (tst : Int → Bool)
    (hS : ∀ tl : Led, S (tl ++ news))
    (ht : ∀ (i : Nat) k q t I oI C oC D ys m₂ h tk (tl : Led) (E' : Value → Shared → Prop) (Q' : Bool → Shared → Prop), T[i]? = some (k, q) → LCg.NsObj oC m₂ → m₂ x = some (.int k t) → Fr h₀ L h m → News h₀ L h ((I, oI) :: (C, oC) :: (D, LCg.lst ys) :: (tl ++ news)) → (∀ tk', Q' (tst k) { s with heap := h, toks := tk' }) →
      wpAny (model prog w) A (isTrue ct (compEnvC scope cl C env) (eval ct (compEnvC scope cl C env))) Q' E' { s with heap := h, toks := tk })
    (he : ∀ (i : Nat) k q t I oI C oC D ys m₂ h tk (tl : Led) (E' : Value → Shared → Prop) (Q' : Value → Shared → Prop), T[i]? = some (k, q) → LCg.NsObj oC m₂ → m₂ x = some (.int k t) → Fr h₀ L h m → News h₀ L h ((I, oI) :: (C, oC) :: (D, LCg.lst ys) :: (tl ++ news)) →
      (∀ a v h' tk', Fr h₀ L h' m → News h₀ L h' ((a, tupOf [.int k t, v]) :: (I, oI) :: (C, oC) :: (D, LCg.lst ys) :: (tl ++ news)) → (∀ p ∈ (I, oI) :: (C, oC) :: (D, LCg.lst ys) :: (tl ++ news), p.1 < a) → VIs v q → Q' (.ref a) { s with heap := h', toks := tk' }) →
      wpAny (model prog w) A (eval elt (compEnvC scope cl C env)) Q' E' { s with heap := h, toks := tk })
    (hf : ∀ ys tl, PairsIn (tl ++ news) ys (T.filter fun q => tst q.1) → Above news tl → Fin ys (tl ++ news)) :
    ∀ k i ys tl, i + k = T.length → PairsIn (tl ++ news) ys ((T.take i).filter fun q => tst q.1) → Above news tl → LCt.CompRestT prog w A h₀ L m env ct elt x scope cl s S (KeyAt T) Fin k i ys (tl ++ news)
  | 0, i, ys, tl, hk, hi, hab => by
    refine LCt.CompRestT.zero (hf ys tl ?_ hab)
    rw [List.take_of_length_le (by omega)] at hi
    exact hi
  | k + 1, i, ys, tl, hk, hi, hab => by
    refine LCt.CompRestT.succ ?_
    intro v I oI C oC D m₂ h tk E' hP hC hx F N off ne
    obtain ⟨kk, q, t, hT, rfl⟩ := hP
    have hnext : ((T.take (i + 1)).filter fun q => tst q.1) = ((T.take i).filter fun q => tst q.1) ++ (if tst kk then [(kk, q)] else []) := by
      rw [List.take_add_one, hT]
      simp only [Option.toList_some, List.filter_append]
      congr 1
      cases h9 : tst kk <;> simp [h9]
    refine ht i kk q t I oI C oC D ys m₂ h tk tl E' _ hT hC hx F N fun tk' => ?_
    cases htst : tst kk with
    | true =>
      simp only [if_true]
      refine he i kk q t I oI C oC D ys m₂ h tk' tl E' _ hT hC hx F N fun a v h' tk'' F' N' hlt hv => ?_
      refine LCg.CompEnd.intro (s₁ := { s with heap := h, toks := tk }) F' N' ((a, tupOf [.int kk t, v]) :: tl ++ news) (fun p hp => ?_) (LCg.Off3.of fun p hp => ?_) (hS _) ?_
      · rcases List.mem_cons.mp hp with rfl | hp
        · exact .tail _ (.head _)
        rcases List.mem_cons.mp hp with rfl | hp
        · exact .tail _ (.tail _ (.head _))
        rcases List.mem_cons.mp hp with rfl | hp
        · exact .tail _ (.tail _ (.tail _ (.head _)))
        rcases List.mem_cons.mp hp with rfl | hp
        · exact .head _
        · exact .tail _ (.tail _ (.tail _ (.tail _ hp)))
      · rcases List.mem_cons.mp hp with rfl | hp
        · exact ⟨Nat.ne_of_gt (hlt _ (.head _)), Nat.ne_of_gt (hlt _ (.tail _ (.head _))), Nat.ne_of_gt (hlt _ (.tail _ (.tail _ (.head _))))⟩
        · exact off.mem p hp
      · refine comp_own tst hS ht he hf k (i + 1) _ _ (by omega) ?_ (above_cons' (fun p hp => hlt p (.tail _ (.tail _ (.tail _ (List.mem_append_right _ hp))))) hab)
        rw [hnext, htst]
        exact PairsIn.append (hi.mono fun p hp => .tail _ hp) (.cons (.mk (.head _) hv) .nil)
    | false =>
      simp only [Bool.false_eq_true, if_false]
      refine LCg.CompEnd.intro (s₁ := { s with heap := h, toks := tk }) F N (tl ++ news) (fun _ h => h) off (hS _) ?_
      refine comp_own tst hS ht he hf k (i + 1) _ _ (by omega) ?_ hab
      rw [hnext, htst]
      simpa using hi
end
end

section
open PySem PySem.W PyProof.Rows PySem.Calls PySem.Spec PyProof.V
set_option Elab.async false
set_option maxRecDepth 100000
abbrev noneV : PV := .str (PySem.Str.ofString "none")
/-- what get tells of a number -/
def gd (T : List (Int × PV)) (k : Int) : PV := (T.lookup k).getD noneV
def vals9 : List PV := noneV :: vals8
theorem gd_mem {T : List (Int × PV)} (g : Good T) (k : Int) : gd T k ∈ vals9 := by
  unfold gd
  cases h : T.lookup k with
  | none => exact .head _
  | some q => exact .tail _ (g.val h)
theorem vals9_show {pv : PV} (h : pv ∈ vals9) : pv.data.showable = true := by
  rcases List.mem_cons.mp h with rfl | h
  · decide +kernel
  · exact vals8_show h
theorem vals9_len {pv : PV} (h : pv ∈ vals9) : pv.data.shown.length ≤ 10 := by
  rcases List.mem_cons.mp h with rfl | h
  · decide +kernel
  · exact vals8_len h
theorem shown9 {q pv : PV} (h1 : q ∈ vals9) (h2 : pv ∈ vals9) (h : q.data.shown = pv.data.shown) : q = pv := by
  simp only [vals9, vals8, List.mem_cons, List.not_mem_nil, or_false] at h1 h2
  rcases h1 with rfl | rfl | rfl | rfl | rfl | rfl | rfl | rfl | rfl <;> rcases h2 with rfl | rfl | rfl | rfl | rfl | rfl | rfl | rfl | rfl <;> first | rfl | exact absurd h (by decide +kernel)
theorem none9 {pv : PV} (h : pv ∈ vals8) : pv ≠ noneV := by
  simp only [vals8, List.mem_cons, List.not_mem_nil, or_false] at h
  rcases h with rfl | rfl | rfl | rfl | rfl | rfl | rfl | rfl <;> simp [noneV] <;> decide
/-- whether two tables tell apart of a number -/
def diffB (T U : List (Int × PV)) (k : Int) : Bool := (gd T k).data.shown != (gd U k).data.shown
theorem diff_iff {T U : List (Int × PV)} (g1 : Good T) (g2 : Good U) (k : Int) : diffB T U k = false ↔ T.lookup k = U.lookup k := by
  unfold diffB
  constructor
  · intro h
    have h' : (gd T k).data.shown = (gd U k).data.shown := by
      by_cases e : (gd T k).data.shown = (gd U k).data.shown
      · exact e
      · have : ((gd T k).data.shown == (gd U k).data.shown) = false := by first | exact beq_false_of_ne e | exact decide_eq_false e
        simp [bne, this] at h
    have e := shown9 (gd_mem g1 k) (gd_mem g2 k) h'
    unfold gd at e
    cases h1 : T.lookup k with
    | none =>
      cases h2 : U.lookup k with
      | none => rfl
      | some q => rw [h1, h2] at e; exact absurd e.symm (none9 (g2.val h2))
    | some p =>
      cases h2 : U.lookup k with
      | none => rw [h1, h2] at e; exact absurd e (none9 (g1.val h1))
      | some q => rw [h1, h2] at e; simp at e; rw [e]
  · intro h
    have : gd T k = gd U k := by unfold gd; rw [h]
    rw [this]
    have : ((gd U k).data.shown == (gd U k).data.shown) = true := by first | exact beq_self_eq_true _ | exact decide_eq_true rfl
    simp [bne, this]
def apartP (T U : List (Int × PV)) (i : Nat) : List Int := ((List.range i).map fun (j : Nat) => (j : Int)).filter (diffB T U)
theorem apart_succ {T U : List (Int × PV)} {i : Nat} : apartP T U (i + 1) = if diffB T U (i : Int) then apartP T U i ++ [(i : Int)] else apartP T U i := by
  unfold apartP
  rw [List.range_succ, List.map_append, List.filter_append]
  cases h : diffB T U (i : Int) <;> simp [h]
theorem apart_len (T U : List (Int × PV)) (i : Nat) : (apartP T U i).length ≤ i := by
  unfold apartP
  exact Nat.le_trans (List.length_filter_le ..) (by simp)
/-- a call that draws at most j times, and what it leaves -/
def TlD (prog : Program) (w : World) (p : Program) (loose : List PySem.Str) (mean : ExcName → Option Value) (mg mb : PySem.Str → Option Value) (cc : Nat) (f : Addr) (vs : List Value) (dk sl : Addr) (j : Int) (L0 news : Led) (Out : Led → Value → Prop) : Prop :=
  (∀ p ∈ L0, p ∈ news) → ∀ (c : Int) (t : Tok) (n : Nat) (us : List Value) (ns : List Int) (un' : Nat) (dp un : Nat) (cn : PySem.Str) (cs : Scope) (a : Addr) (ccd : Value) (cl : List (PySem.Str × Addr)) (outer : List Env) (A₀ : Around) (base h₀ : Heap) (L : Addr) (m : PySem.Str → Option Value) (s : Shared) (Q E : Value → Shared → Prop),
    Below A₀ base outer h₀ → Fr h₀ L s.heap m → (Mine.hd.heap_39 w.params).In h₀ → News h₀ L s.heap ((dk, deckO sl c t n) :: news) → (∀ p ∈ news, p.1 ≠ dk) → (sl, listOf us.toArray un') ∈ news → IntsAre us ns → ns.length ≤ 60 → 0 ≤ c → c ≤ 900 → Top p loose mean mg mb h₀ → cs.kind = .function → dp + cc < recursionLimit → un + 10 * cc < cLine →
    (∀ r tl h' tk' c' t' n', Fr h₀ L h' m → News h₀ L h' ((dk, deckO sl c' t' n') :: (tl ++ news)) → (∀ p ∈ tl, p.1 ≠ dk) → Above news tl → 0 ≤ c' → c' ≤ c + j → Out (tl ++ L0) r → Q r { s with heap := h', toks := tk' }) →
    wpAny (model prog w) (ktrTop dp un (some []) cn cs L a ccd cl outer) (call (.ref f) vs) Q E s
/-- what a deed leaves, in plain words -/
def DeedP (d T d' T' : List (Int × PV)) : Prop :=
  Good d' ∧ Good T' ∧ (∀ k, d'.lookup k = T'.lookup k) ∧ ((d.map (·.1)).filter fun k => (T'.lookup k).isSome) = (d'.map (·.1)).filter fun k => (T.lookup k).isSome
def DeedOut (prog : Program) (w : World) (d T : List (Int × PV)) (led : Led) (r : Value) : Prop :=
  ∃ a v t d' T', r = .ref a ∧ (a, tupOf [v, t]) ∈ led ∧ PL led v d' ∧ TIn prog w led t T' ∧ DeedP d T d' T'
end

section
open PySem PySem.W PyProof.Rows PySem.Calls PySem.Spec PyProof.V
set_option Elab.async false
set_option maxRecDepth 100000
abbrev DL := List (Int × PV)
theorem eqv_eq {a b : PV} : a.eqv b = true ↔ a = b := by
  cases a <;> cases b <;> simp [PV.eqv]
theorem holds_iff {d : DL} {k : Int} {v : PV} : holdsP d k v = true ↔ d.lookup k = some v := by
  unfold holdsP
  cases h : d.lookup k with
  | none => simp
  | some q => simp [eqv_eq]
theorem mem_lookup {k : Int} {v : PV} : ∀ {d : DL}, (d.map (·.1)).Nodup → (k, v) ∈ d → d.lookup k = some v
  | (a, b) :: r, hn, h => by
    rw [List.lookup_cons]
    rcases List.mem_cons.mp h with e | h
    · cases e; simp
    · have hn' := hn
      rw [List.map_cons, List.nodup_cons] at hn'
      have : a ≠ k := fun e => hn'.1 (e ▸ List.mem_map.mpr ⟨_, h, rfl⟩)
      have e' : (k == a) = false := by simpa using Ne.symm this
      rw [e']
      exact mem_lookup hn'.2 h
theorem lookup_none {k : Int} {d : DL} : d.lookup k = none ↔ k ∉ d.map (·.1) := by
  rw [mem_keys]
  cases d.lookup k <;> simp
theorem sub_len {a b : List Int} (ha : a.Nodup) (hb : b.Nodup) (hs : ∀ x ∈ a, x ∈ b) (hl : b.length ≤ a.length) : ∀ x ∈ b, x ∈ a := by
  have hp : (a ++ b.filter fun x => !(decide (x ∈ a))).Perm b := by
    refine (List.perm_ext_iff_of_nodup ?_ hb).mpr fun x => ?_
    · rw [List.nodup_append]
      refine ⟨ha, hb.filter _, fun x hx y hy e => ?_⟩
      have := (List.mem_filter.mp hy).2
      simp at this
      exact this (e ▸ hx)
    · rw [List.mem_append, List.mem_filter]
      constructor
      · rintro (h | h)
        · exact hs x h
        · exact h.1
      · intro h
        by_cases e : x ∈ a
        · exact .inl e
        · exact .inr ⟨h, by simpa using e⟩
  have := hp.length_eq
  rw [List.length_append] at this
  have hz : (b.filter fun x => !(decide (x ∈ a))).length = 0 := by omega
  intro x hx
  have hnil := List.length_eq_zero_iff.mp hz
  rw [List.filter_eq_nil_iff] at hnil
  have := hnil x hx
  simpa using this
theorem same_iff {a b : DL} (ga : (a.map (·.1)).Nodup) (gb : (b.map (·.1)).Nodup) : sameP a b = true ↔ ∀ k, a.lookup k = b.lookup k := by
  unfold sameP
  rw [Bool.and_eq_true, decide_eq_true_iff, List.all_eq_true]
  constructor
  · rintro ⟨hl, hall⟩ k
    have hsub : ∀ x ∈ a.map (·.1), x ∈ b.map (·.1) := by
      intro x hx
      obtain ⟨q, hq, rfl⟩ := List.mem_map.mp hx
      exact List.mem_map.mpr ⟨_, lookup_mem (holds_iff.mp (hall q hq)), rfl⟩
    cases h : a.lookup k with
    | some v => exact (holds_iff.mp (hall _ (lookup_mem h))).symm
    | none =>
      have h1 := lookup_none.mp h
      exact (lookup_none.mpr fun h2 => h1 (sub_len ga gb hsub (by simp [hl]) k h2)).symm
  · intro h
    refine ⟨by simpa using (keys_perm ga gb h).length_eq, fun q hq => holds_iff.mpr ?_⟩
    rw [← h]
    exact mem_lookup ga hq
theorem Good.out {T : DL} (g : Good T) {k : Int} (h : ¬(0 ≤ k ∧ k < 5)) : T.lookup k = none := by
  cases e : T.lookup k with
  | none => rfl
  | some q => have := g.1 _ (lookup_mem e); exact absurd ⟨this.1, this.2.1⟩ h
theorem apart_mem {T U : DL} (g1 : Good T) (g2 : Good U) {k : Int} : k ∈ apartP T U 5 ↔ T.lookup k ≠ U.lookup k := by
  unfold apartP
  rw [List.mem_filter, List.mem_map]
  constructor
  · rintro ⟨_, h⟩ e
    rw [(diff_iff g1 g2 k).mpr e] at h; cases h
  · intro h
    by_cases hk : 0 ≤ k ∧ k < 5
    · refine ⟨⟨k.toNat, List.mem_range.mpr (by omega), by omega⟩, ?_⟩
      cases hd : diffB T U k with
      | true => rfl
      | false => exact absurd ((diff_iff g1 g2 k).mp hd) h
    · exact absurd ((g1.out hk).trans (g2.out hk).symm) h
theorem apart_nil {T U : DL} (g1 : Good T) (g2 : Good U) : apartP T U 5 = [] ↔ ∀ k, T.lookup k = U.lookup k := by
  rw [List.eq_nil_iff_forall_not_mem]
  constructor
  · intro h k
    have := h k
    rw [apart_mem g1 g2] at this
    exact Classical.not_not.mp this
  · intro h k hk
    exact (apart_mem g1 g2).mp hk (h k)
theorem apart_lt (T U : DL) : (apartP T U 5).Pairwise (· < ·) := by
  unfold apartP
  refine List.Pairwise.filter _ ?_
  rw [List.pairwise_map]
  exact List.pairwise_lt_range.imp fun h => by omega
theorem apart_nodup (T U : DL) : (apartP T U 5).Nodup := (apart_lt T U).imp fun h => Int.ne_of_lt h
theorem apart_le (T U : DL) : (apartP T U 5).Pairwise (· ≤ ·) := (apart_lt T U).imp fun h => Int.le_of_lt h
theorem chA_mem {d e : DL} (gd : (d.map (·.1)).Nodup) {k : Int} : k ∈ chA d e ↔ ∃ v, d.lookup k = some v ∧ e.lookup k ≠ some v := by
  unfold chA
  rw [List.mem_map]
  constructor
  · rintro ⟨q, hq, rfl⟩
    obtain ⟨h1, h2⟩ := List.mem_filter.mp hq
    refine ⟨q.2, mem_lookup gd h1, fun e => ?_⟩
    rw [holds_iff.mpr e] at h2; cases h2
  · rintro ⟨v, h1, h2⟩
    refine ⟨(k, v), List.mem_filter.mpr ⟨lookup_mem h1, ?_⟩, rfl⟩
    cases h : holdsP e k v with
    | true => exact absurd (holds_iff.mp h) h2
    | false => rfl
theorem chB_mem {d e : DL} {k : Int} : k ∈ chB d e ↔ d.lookup k = none ∧ e.lookup k ≠ none := by
  unfold chB
  rw [List.mem_map]
  constructor
  · rintro ⟨q, hq, rfl⟩
    obtain ⟨h1, h2⟩ := List.mem_filter.mp hq
    refine ⟨by simpa using h2, fun e' => ?_⟩
    exact lookup_none.mp e' (List.mem_map.mpr ⟨q, h1, rfl⟩)
  · rintro ⟨h1, h2⟩
    cases h : e.lookup k with
    | none => exact absurd h h2
    | some v => exact ⟨(k, v), List.mem_filter.mpr ⟨lookup_mem h, by simp [h1]⟩, rfl⟩
theorem ch_mem {d e : DL} (gd : (d.map (·.1)).Nodup) {k : Int} : k ∈ chA d e ++ chB d e ↔ d.lookup k ≠ e.lookup k := by
  rw [List.mem_append, chA_mem gd, chB_mem]
  cases h1 : d.lookup k <;> cases h2 : e.lookup k <;> simp
  exact ⟨fun h e => h e.symm, fun h e => h e.symm⟩
theorem ch_nodup {d e : DL} (gd : (d.map (·.1)).Nodup) (ge : (e.map (·.1)).Nodup) : (chA d e ++ chB d e).Nodup := by
  rw [List.nodup_append]
  refine ⟨List.Sublist.nodup (List.filter_sublist.map _) gd, List.Sublist.nodup (List.filter_sublist.map _) ge, fun x hx y hy e => ?_⟩
  subst e
  obtain ⟨v, h, _⟩ := (chA_mem gd).mp hx
  rw [(chB_mem.mp hy).1] at h
  cases h
theorem changed_eq {d e T U : DL} {ns : List Int} (gd : Good d) (ge : Good e) (gT : Good T) (gU : Good U) (hiff : ∀ k, d.lookup k ≠ e.lookup k ↔ T.lookup k ≠ U.lookup k)
    (hp : ns.Perm (chA d e ++ chB d e)) (ho : ns.Pairwise (· ≤ ·)) : ns = apartP T U 5 := by
  refine sorted_eq (hp.trans ((List.perm_ext_iff_of_nodup (ch_nodup gd.2 ge.2) (apart_nodup T U)).mpr fun k => ?_)) ho (apart_le T U)
  rw [ch_mem gd.2, apart_mem gT gU]
  exact hiff k
theorem same_apart {d e T U : DL} (gd : Good d) (ge : Good e) (gT : Good T) (gU : Good U) (hiff : ∀ k, d.lookup k ≠ e.lookup k ↔ T.lookup k ≠ U.lookup k) : sameP d e = decide (apartP T U 5 = []) := by
  have h : (∀ k, d.lookup k = e.lookup k) ↔ ∀ k, T.lookup k = U.lookup k := by
    constructor
    · intro h k
      exact Classical.not_not.mp fun hn => (hiff k).mpr hn (h k)
    · intro h k
      exact Classical.not_not.mp fun hn => (hiff k).mp hn (h k)
  by_cases hs : apartP T U 5 = []
  · rw [decide_eq_true hs]
    exact (same_iff gd.2 ge.2).mpr (h.mpr ((apart_nil gT gU).mp hs))
  · rw [decide_eq_false hs]
    cases e' : sameP d e with
    | false => rfl
    | true => exact absurd ((apart_nil gT gU).mpr (h.mp ((same_iff gd.2 ge.2).mp e'))) hs
/-! what the deeds do to a list -/
theorem lookup_with {k j : Int} {v : PV} : ∀ {d : DL}, (withP d k v).lookup j = if j = k then some v else d.lookup j
  | [] => by
    show List.lookup j [(k, v)] = _
    rw [List.lookup_cons]
    by_cases e : j = k
    · subst e; simp
    · have : (j == k) = false := by simpa using e
      rw [this, if_neg e]
  | (a, b) :: r => by
    have ih := lookup_with (k := k) (j := j) (v := v) (d := r)
    unfold withP
    by_cases ea : a = k
    · rw [if_pos ea]
      subst ea
      rw [List.lookup_cons, List.lookup_cons]
      by_cases e : j = a
      · subst e; simp
      · have : (j == a) = false := by simpa using e
        rw [this, if_neg e]
    · rw [if_neg ea, List.lookup_cons, List.lookup_cons, ih]
      by_cases e : j = a
      · subst e; simp [ea]
      · have : (j == a) = false := by simpa using e
        rw [this]
theorem with_same {k : Int} {v : PV} : ∀ {d : DL}, d.lookup k = some v → withP d k v = d
  | (a, b) :: r, h => by
    rw [List.lookup_cons] at h
    unfold withP
    by_cases e : a = k
    · subst e; simp at h; subst h; simp
    · have e' : (k == a) = false := by simpa using Ne.symm e
      rw [e'] at h
      rw [if_neg e, with_same h]
theorem with_keys {k : Int} {v : PV} : ∀ d : DL, (withP d k v).map (·.1) = if (d.lookup k).isSome then d.map (·.1) else d.map (·.1) ++ [k]
  | [] => rfl
  | (a, b) :: r => by
    unfold withP
    rw [List.lookup_cons]
    by_cases e : a = k
    · subst e; simp
    · have e' : (k == a) = false := by simpa using Ne.symm e
      rw [if_neg e, e', List.map_cons, with_keys r]
      cases h : (List.lookup k r).isSome <;> simp [h]
theorem with_mem {k : Int} {v : PV} {q : Int × PV} : ∀ {d : DL}, q ∈ withP d k v → q = (k, v) ∨ q ∈ d
  | [], h => .inl (List.mem_singleton.mp h)
  | (a, b) :: r, h => by
    unfold withP at h
    split at h
    · rcases List.mem_cons.mp h with h | h
      · exact .inl h
      · exact .inr (.tail _ h)
    · rcases List.mem_cons.mp h with h | h
      · exact .inr (h ▸ .head _)
      · rcases with_mem h with h | h
        · exact .inl h
        · exact .inr (.tail _ h)
theorem Good.with {d : DL} (g : Good d) {k : Int} {v : PV} (h0 : 0 ≤ k) (h5 : k < 5) (hv : v ∈ vals8) : Good (withP d k v) := by
  refine ⟨fun q hq => ?_, ?_⟩
  · rcases with_mem hq with rfl | h
    · exact ⟨h0, h5, hv⟩
    · exact g.1 q h
  · rw [with_keys]
    split
    · exact g.2
    · rename_i hn
      rw [List.nodup_append]
      refine ⟨g.2, by simp, fun x hx y hy e => ?_⟩
      rw [List.mem_singleton.mp hy] at e
      exact hn (mem_keys.mp (e ▸ hx))
theorem added_eq (d : DL) : ∀ e : DL, addedP d e = e.foldl (fun f q => withP f q.1 q.2) d := by
  intro e
  induction e generalizing d with
  | nil => rfl
  | cons q r ih =>
    show addedP (if holdsP d q.1 q.2 then d else withP d q.1 q.2) r = _
    rw [List.foldl_cons]
    have : (if holdsP d q.1 q.2 then d else withP d q.1 q.2) = withP d q.1 q.2 := by
      split
      · rename_i h; rw [with_same (holds_iff.mp h)]
      · rfl
    rw [this]
    exact ih _
def mergeP (d e : DL) : DL := e.foldl (fun f q => withP f q.1 q.2) d
theorem lookup_merge {j : Int} : ∀ {e d : DL}, (e.map (·.1)).Nodup → (mergeP d e).lookup j = (e.lookup j).or (d.lookup j)
  | [], d, _ => by simp [mergeP]
  | (k, v) :: r, d, hn => by
    rw [List.map_cons, List.nodup_cons] at hn
    have ih := lookup_merge (j := j) (e := r) (d := withP d k v) hn.2
    show (mergeP (withP d k v) r).lookup j = _
    rw [ih, lookup_with, List.lookup_cons]
    by_cases e : j = k
    · subst e
      have : r.lookup j = none := lookup_none.mpr hn.1
      simp [this]
    · have e' : (j == k) = false := by simpa using e
      rw [e', if_neg e]
theorem Good.merge {e : DL} (ge : Good e) : ∀ {d : DL}, Good d → Good (mergeP d e) := by
  obtain ⟨he, -⟩ := ge
  induction e with
  | nil => exact fun g => g
  | cons q r ih =>
    intro d g
    have hq := he q (.head _)
    exact ih (fun x hx => he x (.tail _ hx)) (g.with hq.1 hq.2.1 hq.2.2)
theorem lookup_filter {f : Int → Bool} {j : Int} : ∀ {d : DL}, (d.filter fun q => f q.1).lookup j = if f j then d.lookup j else none
  | [] => by simp
  | (a, b) :: r => by
    have ih := lookup_filter (f := f) (j := j) (d := r)
    rw [List.filter_cons]
    by_cases hf : f a
    · rw [if_pos hf, List.lookup_cons, List.lookup_cons, ih]
      by_cases e : j = a
      · subst e; simp [hf]
      · have : (j == a) = false := by simpa using e
        rw [this]
    · rw [if_neg hf, ih, List.lookup_cons]
      by_cases e : j = a
      · subst e; simp [hf]
      · have : (j == a) = false := by simpa using e
        rw [this]
theorem Good.filter {d : DL} (g : Good d) (f : Int × PV → Bool) : Good (d.filter f) :=
  ⟨fun q hq => g.1 q (List.mem_filter.mp hq).1, List.Sublist.nodup (List.filter_sublist.map _) g.2⟩
theorem Good.reverse {d : DL} (g : Good d) : Good d.reverse := ⟨fun q hq => g.1 q (List.mem_reverse.mp hq), by rw [List.map_reverse]; exact (List.reverse_perm _).nodup_iff.mpr g.2⟩
theorem lookup_reverse {d : DL} (g : Good d) (k : Int) : d.reverse.lookup k = d.lookup k := by
  cases h : d.lookup k with
  | some v => exact mem_lookup g.reverse.2 (List.mem_reverse.mpr (lookup_mem h))
  | none =>
    refine lookup_none.mpr fun hk => lookup_none.mp h ?_
    rw [List.map_reverse, List.mem_reverse] at hk
    exact hk
/-- what the last two lines of the pair's check ask -/
theorem made_same {d1 T1 d2 T2 : DL} (g1 : Good d1) (g2 : Good T1) (g3 : Good d2) (g4 : Good T2) (ha1 : ∀ k, d1.lookup k = T1.lookup k) (ha2 : ∀ k, d2.lookup k = T2.lookup k) {ns : List Int} (hns : ns = (T1.map (·.1)).filter fun k => !(T2.lookup k).isSome) :
    sameP ((addedP d1 d2).filter fun q => !(ns.any (· == q.1))) d2 = true := by
  have gm : Good (addedP d1 d2) := by rw [added_eq]; exact g3.merge g1
  refine (same_iff (gm.filter _).2 g3.2).mpr fun k => ?_
  rw [lookup_filter (f := fun x => !(ns.any (· == x))), added_eq]
  show (if _ then (mergeP d1 d2).lookup k else none) = _
  rw [lookup_merge g3.2]
  have hany : ns.any (· == k) = ((T1.lookup k).isSome && !(T2.lookup k).isSome) := by
    rw [Bool.eq_iff_iff, List.any_eq_true]
    constructor
    · rintro ⟨x, hx, e⟩
      have e : x = k := by simpa using e
      subst e
      rw [hns, List.mem_filter, mem_keys] at hx
      simp [hx.1]
      simpa using hx.2
    · intro h
      rw [Bool.and_eq_true] at h
      refine ⟨k, ?_, by simp⟩
      rw [hns, List.mem_filter, mem_keys]
      exact h
  rw [hany, ← ha1, ← ha2]
  cases h1 : d1.lookup k <;> cases h2 : d2.lookup k <;> simp
theorem rev_same {d : DL} (g : Good d) : sameP d.reverse d = true := (same_iff g.reverse.2 g.2).mpr (lookup_reverse g)
/-! the deeds -/
theorem deed_with {d T : DL} (g : Good d) (gT : Good T) (ha : ∀ k, d.lookup k = T.lookup k) {k : Int} {v : PV} (h0 : 0 ≤ k) (h5 : k < 5) (hv : v ∈ vals8) : DeedP d T (withP d k v) (withP T k v) := by
  refine ⟨g.with h0 h5 hv, gT.with h0 h5 hv, fun j => by rw [lookup_with, lookup_with, ha], ?_⟩
  rw [List.filter_eq_self.mpr fun x hx => by
    have h1 := mem_keys.mp hx
    rw [ha] at h1
    rw [lookup_with]
    split
    · rfl
    · exact h1]
  have hall : (d.map (·.1)).filter (fun k => (T.lookup k).isSome) = d.map (·.1) := List.filter_eq_self.mpr fun x hx => by rw [← ha]; exact mem_keys.mp hx
  rw [with_keys]
  split
  · rw [hall]
  · rename_i hn
    rw [List.filter_append, hall]
    have : (T.lookup k).isSome = false := by rw [← ha]; exact (Bool.not_eq_true _).mp hn
    simp [this]
theorem deed_filter {d T : DL} (g : Good d) (gT : Good T) (ha : ∀ k, d.lookup k = T.lookup k) (f : Int → Bool) : DeedP d T (d.filter fun q => f q.1) (T.filter fun q => f q.1) := by
  refine ⟨g.filter _, gT.filter _, fun j => by rw [lookup_filter, lookup_filter, ha], ?_⟩
  have e1 : (d.filter fun q => f q.1).map (·.1) = (d.map (·.1)).filter f := by rw [List.filter_map]; rfl
  rw [e1, List.filter_filter]
  apply List.filter_congr
  intro x hx
  rw [lookup_filter, ← ha]
  have := mem_keys.mp hx
  cases f x <;> simp [this]
theorem merge_keys {p : Int → Bool} {K : List Int} (hK : ∀ x ∈ K, p x = true) (hK' : ∀ x, p x = true → x ∈ K) : ∀ {e d : DL}, (d.map (·.1)).filter p = K → ((mergeP d e).map (·.1)).filter p = K
  | [], d, h => h
  | (k, v) :: r, d, h => by
    refine merge_keys hK hK' (e := r) (d := withP d k v) ?_
    rw [with_keys]
    split
    · exact h
    · rename_i hn
      rw [List.filter_append, h]
      have : p k = false := by
        cases hp : p k with
        | false => rfl
        | true =>
          have := hK' k hp
          rw [← h] at this
          exact absurd (mem_keys.mp (List.mem_filter.mp this).1) hn
      simp [this]
theorem deed_merge {d T d2 T2 : DL} (g : Good d) (gT : Good T) (g2 : Good d2) (gT2 : Good T2) (ha : ∀ k, d.lookup k = T.lookup k) (ha2 : ∀ k, d2.lookup k = T2.lookup k) : DeedP d T (addedP d d2) (mergeP T T2) := by
  rw [added_eq]
  refine ⟨g2.merge g, gT2.merge gT, fun j => by
    show (mergeP d d2).lookup j = _
    rw [lookup_merge g2.2, lookup_merge gT2.2, ha, ha2], ?_⟩
  rw [List.filter_eq_self.mpr fun x hx => by
    have h1 := mem_keys.mp hx
    rw [ha] at h1
    rw [lookup_merge gT2.2]
    cases T2.lookup x <;> simp [h1]]
  symm
  refine merge_keys (fun x hx => ?_) (fun x hx => ?_) ?_
  · have := mem_keys.mp hx; rw [← ha]; exact this
  · exact mem_keys.mpr (by rw [ha]; exact hx)
  · exact List.filter_eq_self.mpr fun x hx => by rw [← ha]; exact mem_keys.mp hx
theorem filter_len {d : DL} {f : Int × PV → Bool} (h : d.length ≤ 1000) : (d.filter f).length ≤ 1000 := Nat.le_trans (List.length_filter_le ..) h
theorem rev_len {d : DL} (h : d.length ≤ 1000) : d.reverse.length ≤ 1000 := by rw [List.length_reverse]; exact h
theorem PairsIn.at {news news' : Led} {vs : List Value} {ds : DL} (h : PairsIn news vs ds) (hs : ∀ p ∈ news, p ∈ news') : PairsIn news' vs ds := h.mono hs
theorem PairsIn.reverse {news : Led} {vs : List Value} {ds : DL} (h : PairsIn news vs ds) : PairsIn news vs.reverse ds.reverse := by
  induction h with
  | nil => exact .nil
  | cons hp _ ih =>
    rw [List.reverse_cons, List.reverse_cons]
    exact PairsIn.append ih (.cons hp .nil)
section
variable {prog : Program} {w : World} {A : Around} {E : Value → Shared → Prop} {s : Shared} {h₀ : Heap} {L l : Addr} {m : PySem.Str → Option Value} {news : Led}
theorem pl_rev {value slice : PySem.Expr} {vs : List Value} {n : Nat} {vk : Value} {ops : List Value} {Q : Value → Shared → Prop} (F : Fr h₀ L s.heap m) (N : News h₀ L s.heap news) (hm : (l, listOf vs.toArray n) ∈ news) (pk : IsPart vk (some (-1)))
    (h : ∀ D h', Fr h₀ L h' m → News h₀ L h' ((D, listOf vs.reverse.toArray 0) :: news) → (∀ p ∈ news, p.1 < D) → Q (.ref D) { s with heap := h' })
    (hs : subscripted slice false (.ref l) (.ref s.heap.objs.size) = operate ops (getItem (.ref l) (.ref s.heap.objs.size))) (ht : ∀ r, letTemporaryGo value (.ref l) r = pure ()) (hz : vs.length ≤ 1000) :
    wpAny (model prog w) A (subscriptTail value slice (.ref l) (.ref s.heap.objs.size)) Q E { s with heap := s.heap.push { cls := .type "slice", data := .fields #[.none, .none, vk] } } :=
  krv_lit (its := vs.toArray) (zs := vs.reverse) F N (News.isList N hm) pk rfl h hs ht (by rw [List.size_toArray]; exact Nat.le_trans hz (by decide))
end
end

section
open PySem PySem.W PyProof.Rows PySem.Calls PySem.Spec
set_option Elab.async false
set_option maxRecDepth 100000
set_option maxHeartbeats 8000000
set_option pp.deepTerms.threshold 3
set_option pp.deepTerms false
theorem fill9 : ∀ (w : World) (h : Heap), PySem.Challenge.rw_ok0041_01.row.toRowW.prog = PySem.Challenge.rw_ok0041_01.prog → (Mine.hd.heap_39 w.params).In h → True := by
  k_fill
  intros
  trivial
variable {prog : Program} {w : World} {p : Program} {loose : List PySem.Str} {mean : ExcName → Option Value} {mg mb : PySem.Str → Option Value}

section
local macro_rules | `(tactic| walk_at "call ref") => `(tactic| (k_here; k_dflt (refine' TlV.use2 (same_tl ?c1 ?c2 ?c3 ?c4) ?k ?_; (case k => kwd_inv); (case c1 => first | exact PL.at (by assumption) (by ktr_rel) | exact PL.mk (by k_mem) (PairsIn.reverse (PairsIn.at (by assumption) (by ktr_rel)))); (case c2 => exact PL.at (by assumption) (by ktr_rel)); (case c3 => first | assumption | omega | exact filter_len (by assumption) | exact rev_len (by assumption)); (case c4 => first | assumption | omega)); intro r9 h9 tk9 F9 N9 ho9; subst ho9; (try dsimp only); (try k_fold)))
local macro_rules | `(tactic| walk_at "call ref") => `(tactic| (k_here; k_dflt (refine' Tl.use2 (changed_tl ?c1 ?c2 ?c3 ?c4 ?c5) ?hs ?k ?_; (case k => kwd_inv); (case c1 => exact PL.at (by assumption) (by ktr_rel)); (case c2 => exact PL.at (by assumption) (by ktr_rel)); (case c3 => assumption); (case c4 => assumption); (case c5 => omega); (case hs => exact sub_refl)); intro r9 tl9 h9 tk9 F9 N9 hl9 ho9; obtain ⟨D9, ws9, ns9, n9, hr9, hm9, hI9, hP9, hO9⟩ := ho9; subst hr9; (try dsimp only); (try k_fold)))
local macro_rules | `(tactic| walk_at "call ref") => `(tactic| (k_here; k_dflt (refine' Tl.use2 (added_tl ?c1 ?c2 ?c3) ?hs ?k ?_; (case k => kwd_inv); (case hs => exact sub_refl); (case c1 => exact PL.at (by assumption) (by ktr_rel)); (case c2 => exact PL.at (by assumption) (by ktr_rel)); (case c3 => omega)); intro r9 tl9 h9 tk9 F9 N9 hl9 ho9; skip; (try dsimp only); (try k_fold)))
local macro_rules | `(tactic| walk_at "call ref") => `(tactic| (k_here; k_dflt (refine' Tl.use2 (removed_tl ?c1 ?c2 ?c3 ?c4) ?hs ?k ?_; (case k => kwd_inv); (case hs => exact sub_refl); (case c1 => exact PL.at (by assumption) (by ktr_rel)); (case c3 => k_mem); (case c4 => assumption); (case c2 => first | assumption | omega)); intro r9 tl9 h9 tk9 F9 N9 hl9 ho9; skip; (try dsimp only); (try k_fold)))
local macro_rules | `(tactic| walk_at "call builtin:dict.get") => `(tactic| (k_here; k_dflt (refine' t_get ?k1 ?k2 ?k3 ?k4 ?_; (case k1 => assumption); (case k3 => k_asm); (case k2 => ktr_rel); (case k4 => exact VIs.str _ _); k_whole); intro v' hV'))
local macro_rules | `(tactic| walk_at "call builtin:repr") => `(tactic| (k_here; k_dflt (refine' r_val ?k1 ?k2 ?k3 ?_; (case k1 => assumption); (case k2 => exact vals9_show (gd_mem (by assumption) _)); (case k3 => exact vals9_len (gd_mem (by assumption) _)); k_whole); intro u' tk'))
local macro_rules | `(tactic| walk_at "compareOp Eq ref ref") => `(tactic| (k_here; (with_reducible show wpAny _ _ (compareOp CmpOp.Eq (Value.ref _) (Value.ref _)) _ _ _); k_dflt (refine' eq_intsK (ns := _) (ms := []) ?k1 ?k2 ?k3 ?k4 ?k5 ?_; (case k1 => exact News.isList (by k_asm) (by k_mem)); (case k2 => assumption); (case k3 => exact News.isList (by k_asm) (by k_mem)); (case k4 => exact IntsAre.nil); (case k5 => ktr_units); k_whole)))
local macro_rules | `(tactic| walk_at "compareOp NotEq ref ref") => `(tactic| (k_here; (with_reducible show wpAny _ _ (compareOp CmpOp.NotEq (Value.ref _) (Value.ref _)) _ _ _); k_dflt (refine' ne_intsK ?k1 ?k2 ?k3 ?k4 ?k5 ?_; (case k1 => exact News.isList (by k_asm) (by k_mem)); (case k2 => assumption); (case k3 => exact News.isList (by k_asm) (by k_mem)); (case k4 => assumption); (case k5 => ktr_units); k_whole)))
local macro_rules | `(tactic| walk_at "pyIter ref") => `(tactic| ((with_reducible show wpAny _ _ (pyIter (Value.ref _)) (fun it s₂ => LoopAtV _ _ _ _ _ (PySem.Str.ofString "number") _ _ _ it s₂) _ _); refine stop ?_))
local macro_rules | `(tactic| walk_at "eval ListComp") => `(tactic| refine stop ?_)
local macro_rules | `(tactic| walk_at "SrcD") => `(tactic| refine stop ?_)
local macro_rules | `(tactic| walk_at "subscriptTail Name Slice ref ref") => `(tactic| (k_here; (with_reducible show wpAny _ _ (subscriptTail _ (PySem.Expr.Slice none none (some _) _) (Value.ref _) (Value.ref _)) _ _ _); k_dflt (refine' pl_rev ?F ?N ?l ?k ?_ ?s ?t ?z; (case F => k_asm); (case N => k_asm); (case l => k_mem); (case k => exact IsPart.int _ _); (case s => with_unfolding_all rfl); (case t => kmk_pure); (case z => assumption)); intro D' h' F' N' l1; (try k_sweep)))

theorem right_tl {news : Led} {v1 u1 v2 u2 : Value} {d1 T1 d2 T2 : List (Int × PV)} (h1 : PL news v1 d1) (h2 : TIn prog w news u1 T1) (h3 : PL news v2 d2) (h4 : TIn prog w news u2 T2) (g1 : Good d1) (g2 : Good T1) (g3 : Good d2) (g4 : Good T2) (ha1 : ∀ k, d1.lookup k = T1.lookup k) (ha2 : ∀ k, d2.lookup k = T2.lookup k) :
    TlV prog w p loose mean mg mb 14 121 [v1, u1, v2, u2] news (fun r => r = .bool true) := by
  w_top off
  unfold TlV
  intro dp un cn cs a ccd cl outer A₀ base h₀ L m s Q E B F X N T₀ hk hd hu hret
  have h1' := h1
  have h2' := h2
  have h3' := h3
  have h4' := h4
  have z1 : d1.length ≤ 5 := g1.len
  have z2 : T1.length ≤ 5 := g2.len
  have z3 : d2.length ≤ 5 := g3.len
  have z4 : T2.length ≤ 5 := g4.len
  have y1 : d1.length ≤ 1000 := by omega
  have y3 : d2.length ≤ 1000 := by omega
  have y5 : (addedP d1 d2).length ≤ 1000 := by have := addedP_len d2 d1; omega
  obtain @⟨la0, vsa0, na0, _, hl1, hp1⟩ := h1
  obtain ⟨hl3, hp3⟩ := h3
  have y1v : vsa0.length ≤ 1000 := by rw [hp1.length]; omega
  obtain ⟨t1d, t1o, kvs1, rfl, hm2, lo2, hd2, hf2⟩ := h2
  obtain ⟨t2d, t2o, kvs2, rfl, hm4, lo4, hd4, hf4⟩ := h4
  refine wpAny_call ?_
  k_dflt tb_start
  rename_i lb vsb nb g1' L1 h1 tk1 FG1 F1 B1 X1 T1' l1 o1 e1 N1
  replace e1 : o1.data = .cell (some (.ref t2d)) := e1
  replace F1 : Fr g1' L1 h1 (fun y => if y = PySem.Str.ofString "other" then some (.ref lb) else if y = PySem.Str.ofString "one_table" then some (.ref t1d) else if y = PySem.Str.ofString "one" then some (.ref la0) else none) := F1
  k_steps
  rename_i ap hA lA hB FB NB hC tkC t₁ u₁ v₁ hr Fa Na ka
  refine Stop.mk ?_
  refine rng_iter (n := 5) (fun i m₁ nx => ∃ ws n, nx = (ap, listOf ws.toArray n) :: (L1 + 1, o1) :: news ∧ Same [PySem.Str.ofString "number"] (fun y => if y = PySem.Str.ofString "apart" then some (Value.ref ap) else if y = PySem.Str.ofString "other" then some (.ref lb) else if y = PySem.Str.ofString "one_table" then some (.ref t1d) else if y = PySem.Str.ofString "one" then some (.ref la0) else none) m₁ ∧ IntsAre ws (apartP T1 T2 i)) hr rfl rfl (by decide) Fa Na ⟨[], _, rfl, Same.rfl, .nil⟩ ?_ ?_
  · rintro i t₁ m₁ nx h tk own hi hoff ⟨ws, n, rfl, hm, hI⟩ F₁ N₁
    replace F₁ := fr_but hm F₁
    simp only [List.cons_append] at N₁
    have hb0 : (0 : Int) ≤ (i : Int) := by omega
    have hb5 : (i : Int) < 5 := by omega
    have hws : ws.toArray.size ≤ sizeLine := by
      have h2 := hI.length
      have h3 := apart_len T1 T2 i
      rw [List.size_toArray]
      exact Nat.le_trans (by omega : ws.length ≤ 1000) (by decide)
    have hne : ∀ p ∈ (L1 + 1, o1) :: (news ++ own), p.1 ≠ ap := by
      intro p hp
      rcases List.mem_cons.mp hp with rfl | hp
      · exact Nat.ne_of_lt (lA _ (.head _))
      rcases List.mem_append.mp hp with hp | hp
      · exact Nat.ne_of_lt (lA _ (.tail _ hp))
      · exact hoff p hp ap (by simp)
    k_steps
    · (with_reducible rename (_ != _) = true => hx)
      (rename News _ _ _ _ => nE)
      simp only [List.push_toArray] at nE
      refine InvEndG.intro (by k_asm) nE (nx := (ap, listOf (ws ++ [Value.int (i : Int) t₁]).toArray (n + 1)) :: (L1 + 1, o1) :: news) ⟨_, _, rfl, (by tb_rel), ?_⟩ (by simpa using hoff) (by ktr_rel) (by ktr_rel)
      rw [apart_succ, if_pos (show diffB T1 T2 (i : Int) = true from hx)]
      exact IntsAre.snoc hI _ _
    · (with_reducible rename (_ != _) = false => hx)
      refine InvEndG.intro (by k_asm) (by k_asm) (nx := (ap, listOf ws.toArray n) :: (L1 + 1, o1) :: news) ⟨ws, n, rfl, (by tb_rel), ?_⟩ (by assumption) (by ktr_rel) (by ktr_rel)
      rw [apart_succ, if_neg (by rw [show diffB T1 T2 (i : Int) = false from hx]; decide)]
      exact hI
  · rintro m₁ nx h tk ⟨ws, n, rfl, hm, hI⟩ F₁ N₁
    replace F₁ := fr_out1 hm F₁
    have hiff1 : ∀ k, d1.lookup k ≠ d2.lookup k ↔ T1.lookup k ≠ T2.lookup k := fun k => by rw [ha1, ha2]
    have hiff2 : ∀ k, d2.lookup k ≠ d1.lookup k ↔ T1.lookup k ≠ T2.lookup k := fun k => by rw [ha1, ha2]; exact ⟨Ne.symm, Ne.symm⟩
    have hs1 : sameP d1 d2 = decide (apartP T1 T2 5 = []) := same_apart g1 g3 g2 g4 hiff1
    have hs2 : sameP d2 d1 = decide (apartP T1 T2 5 = []) := same_apart g3 g1 g2 g4 hiff2
    k_steps
    · exfalso
      (with_reducible rename (_ != _) = true => hx)
      rw [hs1] at hx; simp at hx
    · exfalso
      (with_reducible rename (_ != _) = true => hx)
      rw [hs2] at hx; simp at hx
    · refine Stop.mk ?_
      refine ListComp_D (F₀ := by k_asm) (by with_unfolding_all rfl) (by decide) (by rfl) (by decide) (by rfl) ?_
      k_steps
      refine Stop.mk ⟨t1d, t1o, kvs1, T1, _, rfl, rfl, by k_asm, by k_asm, mem_sub hm2 (by ktr_rel), lo2, hd2, hf2, by omega, fun g => ?_⟩
      refine comp_keys (fun k => !(T2.lookup k).isSome) (mem_sub hm2 (by ktr_rel)) ?_ ?_ ?_ T1.length 0 [] (by omega) .nil
      · intro i k q t I oI C oC D ys m₂ h tk E' Q' hT hC hx F2 N2 hQ
        k_steps
        exact hQ _
      · intro i k q t I oI C oC D ys m₂ h tk E' Q' hT hC hx F2 N2 hQ
        k_steps
        exact hQ _
      · intro ys hI
        unfold LCg.FinE
        intro D h tk F2 N2 o2
        (with_reducible rename PL _ _ (addedP d1 d2) => hadd)
        obtain ⟨X, hsX, hadd', N2'⟩ : ∃ X, (∀ p ∈ news, p ∈ X) ∧ PL X _ (addedP d1 d2) ∧ News g1' L1 h ((D, LCg.lst ys) :: X) := ⟨_, by ktr_rel, hadd, N2⟩
        clear N2 hadd o2
        have h1x := h1'.at hsX
        have h3x := h3'.at hsX
        have hl1x := hsX _ hl1
        have hp1x := hp1.mono hsX
        clear hl1 hp1 h1' h3'
        k_steps
        · exact hret _ _ _ (by k_asm) (drop_news (by k_asm) (by ktr_rel)) (by rw [rev_same g1])
        · exfalso
          (with_reducible rename sameP _ _ = false => hx)
          exact absurd ((made_same g1 g2 g3 g4 ha1 ha2 rfl).symm.trans hx) (by decide)
    · exfalso
      (with_reducible rename ¬ _ = _ => hx)
      exact hx (changed_eq g3 g1 g2 g4 hiff2 (by assumption) (by assumption))
    · exfalso
      (with_reducible rename ¬ _ = _ => hx)
      exact hx (changed_eq g1 g3 g2 g4 hiff1 (by assumption) (by assumption))
end
end

section
open PySem PySem.W PyProof.Rows PySem.Calls PySem.Spec PyProof.V
set_option Elab.async false
set_option maxRecDepth 100000
theorem with_map {k : Int} {v : PV} : ∀ {T : DL}, (T.map (·.1)).Nodup → withP T k v = if T.any (fun p => decide (p.1 = k)) then T.map (fun p => if p.1 = k then (p.1, v) else p) else T ++ [(k, v)]
  | [], _ => rfl
  | (a, b) :: r, hn => by
    rw [List.map_cons, List.nodup_cons] at hn
    unfold withP
    by_cases e : a = k
    · subst e
      have h1 : r.map (fun p => if p.1 = a then (p.1, v) else p) = r := by
        conv => rhs; rw [← List.map_id r]
        apply List.map_congr_left
        intro p hp
        have : p.1 ≠ a := fun e => hn.1 (e ▸ List.mem_map.mpr ⟨p, hp, rfl⟩)
        simp [this]
      simp [h1]
    · rw [if_neg e, with_map hn.2]
      simp only [List.any_cons, decide_eq_false e, Bool.false_or, List.map_cons, if_neg e]
      split <;> simp
theorem put_D {k : Int} {v : PV} {T : DL} (hn : (T.map (·.1)).Nodup) : putD (.int k) v.data (toD T) = toD (withP T k v) := by
  rw [with_map hn]
  unfold putD toD
  rw [List.any_map, List.map_map]
  have e1 : (T.any ((fun p : PyData × PyData => PySem.Spec.same p.1 (.int k)) ∘ fun q : Int × PV => (PyData.int q.1, q.2.data))) = T.any (fun p => decide (p.1 = k)) := by
    congr 1
  rw [e1]
  split
  · rw [List.map_map]
    apply List.map_congr_left
    intro p _
    show (if PySem.Spec.same (.int p.1) (.int k) = true then (PyData.int p.1, v.data) else (PyData.int p.1, p.2.data)) = _
    rw [PyProof.V.same_int]
    by_cases e : p.1 = k <;> simp [e]
  · rw [List.map_append]; rfl
theorem with_nodup {T : DL} (hn : (T.map (·.1)).Nodup) (k : Int) (v : PV) : ((withP T k v).map (·.1)).Nodup := by
  rw [with_keys]
  split
  · exact hn
  · rename_i h
    rw [List.nodup_append]
    exact ⟨hn, by simp, fun x hx y hy e => h (mem_keys.mp (by rw [List.mem_singleton.mp hy] at e; exact e ▸ hx))⟩
theorem merge_D : ∀ {U T : DL}, (T.map (·.1)).Nodup → ktMergeD (toD T) (toD U) = toD (mergeP T U)
  | [], _, _ => rfl
  | (k, v) :: r, T, hn => by
    show ktMergeD (putD (.int k) v.data (toD T)) (toD r) = _
    rw [put_D hn, merge_D (with_nodup hn k v)]
    rfl
section
variable {prog : Program} {w : World} {A : Around} {E : Value → Shared → Prop} {s : Shared} {h₀ : Heap} {L d : Addr} {m : PySem.Str → Option Value} {news L9 : Led} {T U : DL}
theorem t_copy {Q : Value → Shared → Prop} (F : Fr h₀ L s.heap m) (N : News h₀ L s.heap news) (hbig : h₀.NoLimit) (t1 : TIn prog w L9 (.ref d) T) (hs : ∀ p ∈ L9, p ∈ news) (hsz : T.length ≤ 1000)
    (k : ∀ d o h', Fr h₀ L h' m → News h₀ L h' ((d, o) :: news) → (∀ p ∈ news, p.1 < d) → TIn prog w [(d, o)] (.ref d) T → Q (.ref d) { s with heap := h' }) :
    wpAny (model prog w) A (call (.type "dict") [.ref d]) Q E s :=
  kt_dict_K (knd := intKind prog w) (enc := PyData.int) F N hbig (t1.tab N hs) (by unfold toD; rw [List.length_map]; exact Nat.le_trans hsz (by decide)) fun d h' o kvs F' N' l1 lo hd hf => k d o h' F' N' l1 ⟨d, o, kvs, rfl, .head _, lo, hd, hf⟩
theorem t_made {v : Value} {Q : Value → Shared → Prop} (hh : A.handled = none) (F : Fr h₀ L s.heap m) (N : News h₀ L s.heap news) (hbig : h₀.NoLimit) (hv : PL L9 v T) (hs : ∀ p ∈ L9, p ∈ news) (hn : (T.map (·.1)).Nodup) (hsz : T.length ≤ 1000)
    (k : ∀ d o h' tk, Fr h₀ L h' m → News h₀ L h' ((d, o) :: news) → (∀ p ∈ news, p.1 < d) → TIn prog w [(d, o)] (.ref d) T → Q (.ref d) { s with heap := h', toks := tk }) :
    wpAny (model prog w) A (call (.type "dict") [v]) Q E s := by
  obtain ⟨hm, hp⟩ := hv
  obtain ⟨ps, h1, h2, h3, h4⟩ := pairs_split hp
  have hlp : ps.length = T.length := by have := congrArg List.length h3; simpa using this
  refine call_dict_list (ps := ps) (N _ (hs _ hm)).1 (fun j q hq => ?_) h1 hh (Nat.le_trans (by omega : ps.length ≤ 1000) (by decide)) fun h' tk hD hk => ?_
  · obtain ⟨a, t, e1, e2⟩ := h4 j q hq
    exact ⟨a, t, e1, _, (N _ (hs _ e2)).1, rfl, _, rfl⟩
  · rw [stored_fold ps [] (by simpa [h3] using hn), List.nil_append] at hD
    obtain ⟨o, ho, hd⟩ := Heap.dictOf_iff.mp hD
    refine k _ o h' tk (F.keeps hk) (news_pushed F N hk ho rfl) (fun p hp => Heap.lt_size (N p hp).1) ⟨_, o, ps, rfl, .head _, F.notModules (modules_low hbig), hd, h2⟩
theorem t_set {k : Int} {t : Tok} {v : Value} {q : PV} {o : Obj} {g : Obj → Led} {Q : Unit → Shared → Prop} (hv : VIs v q) (F : Fr h₀ L s.heap m) (N : News h₀ L s.heap news) (U : UpdF d o news g) (t1 : TIn prog w [(d, o)] (.ref d) T) (hn : (T.map (·.1)).Nodup) (hsz : T.length ≤ 1000)
    (h : ∀ h' o' tk, Fr h₀ L h' m → News h₀ L h' (g o') → TIn prog w [(d, o')] (.ref d) (withP T k q) → Q () { s with heap := h', toks := tk }) :
    wpAny (model prog w) A (setItem (.ref d) (.int k t) v) Q E s := by
  obtain ⟨d', o', kvs, e, hm, lo, hd, hf⟩ := t1
  cases e
  cases List.mem_singleton.mp hm
  refine setItem_K PyProof.V.same_int (intKind_is prog w k t) hv.flat F N U hd hf (fun h' o' F' N' hd' hf' => h h' o' _ F' N' ⟨_, o', _, rfl, .head _, lo, hd', ?_⟩) (by unfold toD; rw [List.length_map]; exact Nat.le_trans hsz (by decide))
  rw [put_D hn] at hf'
  exact hf'
theorem t_upd {d2 : Addr} {o : Obj} {g : Obj → Led} {Q : Value → Shared → Prop} (F : Fr h₀ L s.heap m) (N : News h₀ L s.heap news) (Up : UpdF d o news g) (t1 : TIn prog w [(d, o)] (.ref d) T) (t2 : TIn prog w L9 (.ref d2) U) (hs : ∀ p ∈ L9, p ∈ news) (hne : d ≠ d2) (hn : (T.map (·.1)).Nodup) (hsz : T.length ≤ 1000) (hsz2 : U.length ≤ 1000)
    (h : ∀ h' o' tk, Fr h₀ L h' m → News h₀ L h' (g o') → TIn prog w [(d, o')] (.ref d) (mergeP T U) → Q .none { s with heap := h', toks := tk }) :
    wpAny (model prog w) A (call (.builtin "dict.update") [.ref d, .ref d2]) Q E s := by
  have Ta := t2.tab N hs
  obtain ⟨d', o', kvs, e, hm, lo, hd, hf⟩ := t1
  cases e
  cases List.mem_singleton.mp hm
  obtain ⟨pre, post, rfl, hg, a, b⟩ := Up.split
  refine kt_update_madeIn PyProof.V.same_int F N a b hd hf Ta hne (fun h' o' kvs' F' N' hd' hf' => h h' o' _ F' (hg o' ▸ N') ⟨_, o', _, rfl, .head _, lo, hd', ?_⟩) (by unfold toD; rw [List.length_map, List.length_map]; exact Nat.le_trans (by omega : T.length + U.length ≤ 2000) (by decide))
  rw [merge_D hn] at hf'
  exact hf'
end
theorem ne_mem {l K : Led} {d d2 : Addr} {o : Obj} (h : ∀ p ∈ l, p.1 < d) (hm : (d2, o) ∈ K) (hs : ∀ p ∈ K, p ∈ l) : d ≠ d2 := Nat.ne_of_gt (h _ (hs _ hm))
theorem good_nodup {T : DL} (h : Good T) : (T.map (·.1)).Nodup := h.2
theorem above_mix {news a b : Led} (h : Above news a) (h2 : Above news b) : Above news (a ++ b) := fun q hq p hp => (List.mem_append.mp hp).elim (h q hq p) (h2 q hq p)
theorem above_at {news led tl : Led} (h : Above led tl) (hs : ∀ p ∈ news, p ∈ led) : Above news tl := h.sub hs
section
variable {prog : Program} {w : World} {A : Around} {s : Shared} {h₀ : Heap} {L : Addr} {m : PySem.Str → Option Value} {env : Env}
theorem comp_own0 {ct elt : Expr} {x : PySem.Str} {scope : Scope} {cl : List (PySem.Str × Addr)} {S : Led → Prop} {Fin : List Value → Led → Prop} {news : Led} {T : List (Int × PV)} (tst : Int → Bool)
    (hS : ∀ tl : Led, S (tl ++ news))
    (ht : ∀ (i : Nat) k q t I oI C oC D ys m₂ h tk (tl : Led) (E' : Value → Shared → Prop) (Q' : Bool → Shared → Prop), T[i]? = some (k, q) → LCg.NsObj oC m₂ → m₂ x = some (.int k t) → Fr h₀ L h m → News h₀ L h ((I, oI) :: (C, oC) :: (D, LCg.lst ys) :: (tl ++ news)) → (∀ tk', Q' (tst k) { s with heap := h, toks := tk' }) →
      wpAny (model prog w) A (isTrue ct (compEnvC scope cl C env) (eval ct (compEnvC scope cl C env))) Q' E' { s with heap := h, toks := tk })
    (he : ∀ (i : Nat) k q t I oI C oC D ys m₂ h tk (tl : Led) (E' : Value → Shared → Prop) (Q' : Value → Shared → Prop), T[i]? = some (k, q) → LCg.NsObj oC m₂ → m₂ x = some (.int k t) → Fr h₀ L h m → News h₀ L h ((I, oI) :: (C, oC) :: (D, LCg.lst ys) :: (tl ++ news)) →
      (∀ a v h' tk', Fr h₀ L h' m → News h₀ L h' ((a, tupOf [.int k t, v]) :: (I, oI) :: (C, oC) :: (D, LCg.lst ys) :: (tl ++ news)) → (∀ p ∈ (I, oI) :: (C, oC) :: (D, LCg.lst ys) :: (tl ++ news), p.1 < a) → VIs v q → Q' (.ref a) { s with heap := h', toks := tk' }) →
      wpAny (model prog w) A (eval elt (compEnvC scope cl C env)) Q' E' { s with heap := h, toks := tk })
    (hf : ∀ ys tl, PairsIn (tl ++ news) ys (T.filter fun q => tst q.1) → Above news tl → Fin ys (tl ++ news)) :
    LCt.CompRestT prog w A h₀ L m env ct elt x scope cl s S (KeyAt T) Fin T.length 0 [] news :=
  comp_own tst hS ht he hf T.length 0 [] [] (by omega) .nil above_nil
end
section
variable {prog : Program} {w : World}
theorem deed_fin {L0 tl9 : Led} {a d : Addr} {o : Obj} {v : Value} {d1 T1 d' T' : DL} (hpl : PL (tl9 ++ L0) v d') (htn : TIn prog w [(d, o)] (.ref d) T') (hP : DeedP d1 T1 d' T') : DeedOut prog w d1 T1 (((a, tupOf [v, .ref d]) :: (d, o) :: tl9) ++ L0) (.ref a) :=
  ⟨a, v, .ref d, d', T', rfl, .head _, hpl.at fun _ h => .tail _ (.tail _ h), htn.mono fun p hp => by rw [List.mem_singleton.mp hp]; exact .tail _ (.head _), hP⟩
end
end

section
open PySem PySem.W PyProof.Rows PySem.Calls PySem.Spec
set_option Elab.async false
set_option maxRecDepth 100000
set_option maxHeartbeats 8000000
set_option pp.deepTerms.threshold 3
set_option pp.deepTerms false
theorem fill10 : ∀ (w : World) (h : Heap), PySem.Challenge.rw_ok0041_01.row.toRowW.prog = PySem.Challenge.rw_ok0041_01.prog → (Mine.hd.heap_39 w.params).In h → True := by
  k_fill
  intros
  trivial
local macro_rules | `(tactic| kwd_rel) => `(tactic| exact ⟨by k_asm, by k_asm, by k_asm, by k_asm, by k_mem, by assumption, by assumption, by omega, by omega, by k_all, by k_asm, by first | exact rfl | assumption, by ktr_room, by ktr_units⟩)
variable {prog : Program} {w : World} {p : Program} {loose : List PySem.Str} {mean : ExcName → Option Value} {mg mb : PySem.Str → Option Value}

section
local macro_rules | `(tactic| walk_at "call ref") => `(tactic| (k_here; k_dflt (refine' TlDV.use2 [_, _, _] (draw_tl ?c1 ?c2) ?k ?_; (case k => kwd_rel); (case c1 => decide); (case c2 => decide)); intro r9 h9 tk9 c9 t9 n9 F9 N9 hc9 hd9 ho9; (try simp only [List.nil_append, List.cons_append] at N9); obtain ⟨x9, t9x, hr9, hx0, hx1⟩ := ho9; subst hr9; (try dsimp only); (try k_fold)))
local macro_rules | `(tactic| walk_at "call ref") => `(tactic| (k_here; k_dflt (refine' TlDV.use2 [_, _, _, _] (draw_tl ?c1 ?c2) ?k ?_; (case k => kwd_rel); (case c1 => decide); (case c2 => decide)); intro r9 h9 tk9 c9 t9 n9 F9 N9 hc9 hd9 ho9; (try simp only [List.nil_append, List.cons_append] at N9); obtain ⟨x9, t9x, hr9, hx0, hx1⟩ := ho9; subst hr9; (try dsimp only); (try k_fold)))
local macro_rules | `(tactic| walk_at "call ref") => `(tactic| (k_here; k_dflt (refine' TlDV.use2 [_, _, _, _] (value_tl ) ?k ?_; (case k => kwd_rel); skip); intro r9 h9 tk9 c9 t9 n9 F9 N9 hc9 hd9 ho9; (try simp only [List.nil_append, List.cons_append] at N9); obtain ⟨pv9, hp9, hv9⟩ := ho9; (try dsimp only); (try k_fold)))
local macro_rules | `(tactic| walk_at "call ref") => `(tactic| (k_here; k_dflt (refine' Tl.use2 (with_tl ?c1 ?c2 ?c3) ?hs ?k ?_; (case k => kwd_inv); (case c1 => assumption); (case hs => ktr_rel); (case c2 => assumption); (case c3 => assumption)); intro r9 tl9 h9 tk9 F9 N9 hl9 ho9; skip; (try dsimp only); (try k_fold)))
local macro_rules | `(tactic| walk_at "call ref") => `(tactic| (k_here; k_dflt (refine' Tl.use2 (without_tl ?c1 ?c2) ?hs ?k ?_; (case k => kwd_inv); (case c1 => assumption); (case hs => ktr_rel); (case c2 => assumption)); intro r9 tl9 h9 tk9 F9 N9 hl9 ho9; skip; (try dsimp only); (try k_fold)))
local macro_rules | `(tactic| walk_at "call ref") => `(tactic| (k_here; k_dflt (refine' Tl.use2 (added_tl ?c1 ?c2 ?c3) ?hs ?k ?_; (case k => kwd_inv); (case c1 => assumption); (case c2 => assumption); (case hs => ktr_rel); (case c3 => omega)); intro r9 tl9 h9 tk9 F9 N9 hl9 ho9; skip; (try dsimp only); (try k_fold)))
local macro_rules | `(tactic| walk_at "call ref") => `(tactic| (k_here; k_dflt (refine' Tl.use2 (removed_tl ?c1 ?c2 ?c3 ?c4) ?hs ?k ?_; (case k => kwd_inv); (case c1 => assumption); (case hs => ktr_rel); (case c3 => k_mem); (case c4 => first | assumption | exact (IntsAre.cons _ _ (IntsAre.cons _ _ IntsAre.nil))); (case c2 => first | assumption | omega)); intro r9 tl9 h9 tk9 F9 N9 hl9 ho9; skip; (try dsimp only); (try k_fold)))
local macro_rules | `(tactic| walk_at "eval ListComp") => `(tactic| refine stop ?_)
local macro_rules | `(tactic| walk_at "SrcD") => `(tactic| refine stop ?_)
local macro_rules | `(tactic| ktr_rel) => `(tactic| ((with_reducible refine above_at (by assumption) ?_); ktr_rel))
local macro_rules | `(tactic| k_ne) => `(tactic| first | assumption | exact ne_fresh (by assumption) (by k_mem) | exact (ne_fresh (by assumption) (by k_mem)).symm)
local macro_rules | `(tactic| k_all) => `(tactic| first | with_reducible assumption | ((with_reducible refine List.forall_mem_append.mpr ⟨?kaa, ?kab⟩); (case kaa => k_all); (case kab => k_all)) | ((with_reducible refine List.forall_mem_cons.mpr ⟨?kac, ?kad⟩); (case kac => first | assumption | exact ne_fresh (by assumption) (by k_mem) | exact (ne_fresh (by assumption) (by k_mem)).symm); (case kad => k_all)) | exact ne_lt (by assumption) | exact ne_sub (ne_lt (by assumption)) (by ktr_rel))
local macro_rules | `(tactic| walk_at "call type:dict") => `(tactic| (k_here; (with_reducible show wpAny _ _ (call (Value.type "dict") [Value.ref _]) _ _ _); k_dflt (refine' t_copy ?k1 ?k2 ?k3 ?k4 ?k5 ?k6 ?_; (case k1 => k_asm); (case k2 => k_asm); (case k3 => exact Top.nolimit (by assumption)); (case k4 => assumption); (case k5 => ktr_rel); (case k6 => omega); k_whole); intro d' o' h' F' N' l1 t1'; (try k_sweep)))
local macro_rules | `(tactic| walk_at "call type:dict") => `(tactic| (k_here; (with_reducible show wpAny _ _ (call (Value.type "dict") [Value.ref _]) _ _ _); k_dflt (refine' t_made ?k0 ?k1 ?k2 ?k3 ?k4 ?k5 ?k6 ?k7 ?_; (case k0 => exact rfl); (case k1 => k_asm); (case k2 => k_asm); (case k3 => exact Top.nolimit (by assumption)); (case k4 => assumption); (case k5 => ktr_rel); (case k6 => exact good_nodup (Good.filter (by assumption) _)); (case k7 => exact filter_len (by omega)); k_whole); intro d' o' h' tk' F' N' l1 t1'; (try k_sweep)))
local macro_rules | `(tactic| walk_at "getMethod ref") => `(tactic| (k_here; (with_reducible show wpAny _ _ (getMethod (Value.ref _) (PySem.Str.ofString "update") _) _ _ _); k_dflt (refine' getMethod_tab (knd := PySem.intKind _ _) (enc := PyData.int) PySem.F.slot_dict_update PySem.F.type_dict_update (TIn.tab ?t ?N ?s) ?_; (case N => k_asm); (case t => assumption); (case s => ktr_rel); k_whole)))
local macro_rules | `(tactic| walk_at "setItem ref int") => `(tactic| (k_here; (with_reducible show wpAny _ _ (setItem (Value.ref _) (Value.int _ _) _) _ _ _); k_dflt (refine' t_set ?v ?F ?N ?U ?t1 ?hn ?z ?_; (case F => k_asm); (case N => k_asm); (case U => k_updF); (case t1 => assumption); (case v => assumption); (case hn => exact good_nodup (by assumption)); (case z => omega); k_whole); intro h' o' tk' F' N' t1'; (try dsimp only at N'); (try k_sweep)))
local macro_rules | `(tactic| walk_at "call builtin:dict.update") => `(tactic| (k_here; (with_reducible show wpAny _ _ (call (Value.builtin _) [Value.ref _, Value.ref _]) _ _ _); k_dflt (refine' t_upd ?F ?N ?U ?t1 ?t2 ?hs ?ne ?hn ?z ?z2 ?_; (case F => k_asm); (case N => k_asm); (case U => k_updF); (case t1 => assumption); (case t2 => assumption); (case hs => ktr_rel); (case ne => exact ne_mem (by assumption) (by assumption) (by ktr_rel)); (case hn => exact good_nodup (by assumption)); (case z => omega); (case z2 => omega); k_whole); intro h' o' tk' F' N' t1'; (try dsimp only at N'); (try k_sweep)))
local macro_rules | `(tactic| kd_mem) => `(tactic| first | (with_reducible exact List.mem_cons_self) | ((with_reducible refine List.mem_cons_of_mem _ ?_); kd_mem) | ((with_reducible refine List.mem_append_right _ ?_); kd_mem))
local macro_rules | `(tactic| kd_subs) => `(tactic| first | (with_reducible exact sub_refl) | (with_reducible exact sub_left sub_refl) | ((with_reducible refine List.forall_mem_cons.mpr ⟨?kda, ?kdb⟩); (case kda => kd_mem); (case kdb => kd_subs)) | ((with_reducible refine List.forall_mem_append.mpr ⟨?kda, ?kdb⟩); (case kda => kd_subs); (case kdb => kd_subs)) | ((with_reducible refine sub_cons ?_); kd_subs) | ((with_reducible refine sub_right ?_); kd_subs))

theorem deed_tl {L0 news : Led} {dk sl : Addr} {v1 u1 v2 u2 : Value} {d1 T1 d2 T2 : List (Int × PV)} (h1 : PL L0 v1 d1) (h2 : TIn prog w L0 u1 T1) (h3 : PL L0 v2 d2) (h4 : TIn prog w L0 u2 T2) (g1 : Good d1) (g2 : Good T1) (g3 : Good d2) (g4 : Good T2) (ha1 : ∀ k, d1.lookup k = T1.lookup k) (ha2 : ∀ k, d2.lookup k = T2.lookup k) :
    TlD prog w p loose mean mg mb 10 111 [.ref dk, v1, u1, v2, u2] dk sl 4 L0 news (DeedOut prog w d1 T1) := by
  w_top off
  unfold TlD
  intro hsub c t n us ns un' dp un cn cs a ccd cl outer A₀ base h₀ L m s Q E B F X N hne hsl hI hns hc0 hc1 T₀ hk hd hu hret
  have h1' := h1.at hsub
  have h2' := h2.mono hsub
  have h3' := h3.at hsub
  have h4' := h4.mono hsub
  have z1 : d1.length ≤ 5 := g1.len
  have z2 : T1.length ≤ 5 := g2.len
  have z3 : d2.length ≤ 5 := g3.len
  have z4 : T2.length ≤ 5 := g4.len
  have y1 : d1.length ≤ 1000 := by omega
  have y3 : d2.length ≤ 1000 := by omega
  obtain ⟨hl1, hp1⟩ := h1'
  obtain ⟨hl3, hp3⟩ := h3'
  obtain ⟨t1d, t1o, kvs1, rfl, hm2, lo2, hd2, hf2⟩ := h2'
  obtain ⟨t2d, t2o, kvs2, rfl, hm4, lo4, hd4, hf4⟩ := h4'
  refine wpAny_call ?_
  k_dflt tb_start
  rename_i la vsa na lb vsb nb g1' L1 h1x tk1 FG1 F1 B1 X1 T1' l1 o1 o2 o3 e1 e2 e3 N1
  replace e1 : o1.data = .cell none := e1
  replace e2 : o2.data = .cell none := e2
  replace e3 : o3.data = .cell (some (.ref t1d)) := e3
  replace F1 : Fr g1' L1 h1x (fun y => if y = PySem.Str.ofString "other_table" then some (.ref t2d) else if y = PySem.Str.ofString "other" then some (.ref lb) else if y = PySem.Str.ofString "plist" then some (.ref la) else if y = PySem.Str.ofString "deck" then some (.ref dk) else none) := F1
  have hL1 : ∀ p ∈ (dk, deckO sl c t n) :: news, p.1 < L1 + 1 := fun p hp => Nat.lt_succ_of_lt (l1 p hp)
  have hL2 : ∀ p ∈ (dk, deckO sl c t n) :: news, p.1 < L1 + 1 + 1 := fun p hp => Nat.lt_succ_of_lt (hL1 p hp)
  have hL3 : ∀ p ∈ (dk, deckO sl c t n) :: news, p.1 < L1 + 1 + 1 + 1 := fun p hp => Nat.lt_succ_of_lt (hL2 p hp)
  replace N1 : News g1' L1 h1x ((L1 + 1 + 1 + 1, o1) :: (L1 + 1 + 1, o2) :: (L1 + 1, o3) :: (dk, deckO sl c t n) :: news) := N1
  have hn12 : L1 + 1 + 1 ≠ L1 + 1 := Nat.succ_ne_self _
  have hn32 : L1 + 1 + 1 + 1 ≠ L1 + 1 + 1 := Nat.succ_ne_self _
  have hn31 : L1 + 1 + 1 + 1 ≠ L1 + 1 := Nat.ne_of_gt (Nat.lt_succ_of_lt (Nat.lt_succ_self _))
  have hn21 := hn12.symm
  have hn23 := hn32.symm
  have hn13 := hn31.symm
  have hdk1 : dk ≠ L1 + 1 := Nat.ne_of_lt (hL1 _ (.head _))
  have hdk2 : dk ≠ L1 + 1 + 1 := Nat.ne_of_lt (hL2 _ (.head _))
  have hdk3 : dk ≠ L1 + 1 + 1 + 1 := Nat.ne_of_lt (hL3 _ (.head _))
  have hw1 : ∀ p ∈ news, p.1 ≠ L1 + 1 := fun p hp => Nat.ne_of_lt (hL1 _ (.tail _ hp))
  have hw2 : ∀ p ∈ news, p.1 ≠ L1 + 1 + 1 := fun p hp => Nat.ne_of_lt (hL2 _ (.tail _ hp))
  have hw3 : ∀ p ∈ news, p.1 ≠ L1 + 1 + 1 + 1 := fun p hp => Nat.ne_of_lt (hL3 _ (.tail _ hp))
  have hret' : ∀ r tl h' tk' c' t' n', Fr h₀ L h' m → News h₀ L h' ((dk, deckO sl c' t' n') :: (tl ++ news)) → Above ((dk, deckO sl c' t' n') :: news) tl → 0 ≤ c' → c' ≤ c + 4 → DeedOut prog w d1 T1 (tl ++ L0) r → Q r { s with heap := h', toks := tk' } :=
    fun r tl h' tk' c' t' n' F N A h0 h1 o => hret r tl h' tk' c' t' n' F N (fun p hp e => A _ (.head _) p hp e.symm) (fun q hq => A q (.tail _ hq)) h0 h1 o
  k_steps
  · (with_reducible rename PL (_ ++ _) _ _ => hpl)
    (with_reducible rename TIn _ _ _ _ (withP _ _ _) => htn)
    (with_reducible rename _ ∈ vals8 => hv8)
    refine' hret' _ ((_, tupOf [_, _]) :: (_, _) :: _) _ _ _ _ _ ?F (drop_news ?N ?sub) ?ab ?c0 ?c1 (deed_fin hpl htn (deed_with g1 g2 ha1 ?x0 ?x5 hv8))
    case F => k_asm
    case N => k_asm
    case sub => (simp only [List.cons_append]; kd_subs)
    case ab => exact above_cons' (lt_sub (by with_reducible assumption) (by kd_subs)) (above_cons' (lt_sub (by with_reducible assumption) (by kd_subs)) (above_at (by with_reducible assumption) (by kd_subs)))
    case c0 => assumption
    case c1 => omega
    case x0 => assumption
    case x5 => assumption
  · rename_i num tnum hnum0 hnum5 qkz ekz Dz h3z l1z h2z h1z h0z oz Fz Nz dz tkaz a1z tkbz a0z r9 tl9 h9 tk9 F9 N9 hl9 ho9
    refine Stop.mk ?_
    refine ListComp_D (F₀ := by k_asm) (by with_unfolding_all rfl) (by decide) (by rfl) (by decide) (by rfl) ?_
    k_steps
    refine Stop.mk ⟨t1d, t1o, kvs1, T1, _, rfl, rfl, by k_asm, by k_asm, mem_sub hm2 (by ktr_rel), lo2, hd2, hf2, by omega, fun g => ?_⟩
    refine comp_own0 (fun k => !(k == num)) (fun tl => List.mem_append_right _ (mem_sub hm2 (by ktr_rel))) ?_ ?_ ?_
    · intro i k q t I oI C oC D ys m₂ h tk tl E' Q' hT hC hx F2 N2 hQ
      k_steps
      exact hQ _
    · intro i k q t I oI C oC D ys m₂ h tk tl E' Q' hT hC hx F2 N2 hQ
      have hlk : T1.lookup k = some q := mem_lookup g2.2 (List.mem_of_getElem? hT)
      k_steps
      exact hQ _ _ _ _ (by k_asm) (by k_asm) (by assumption) (by assumption)
    · intro ys tl2 hp2 hab2
      unfold LCg.FinE
      intro D h tk F2 N2 o2x
      have hplT : PL ((D, LCg.lst ys) :: _) (.ref D) _ := PL.mk (.head _) (PairsIn.at hp2 (fun p hp => .tail _ hp))
      k_steps
      (with_reducible rename TIn _ _ _ _ (List.filter _ _) => htn)
      refine' hret' _ ((_, tupOf [_, _]) :: (_, _) :: _) _ _ _ _ _ ?F (drop_news ?N ?sub) ?ab ?c0 ?c1 (deed_fin ho9 htn (deed_filter g1 g2 ha1 (fun k => !(k == num))))
      case F => k_asm
      case N => k_asm
      case sub => (simp only [List.cons_append]; kd_subs)
      case ab => exact above_cons' (lt_sub (by with_reducible assumption) (by kd_subs)) (above_cons' (lt_sub (by with_reducible assumption) (by kd_subs)) (above_at (by with_reducible assumption) (by kd_subs)))
      case c0 => assumption
      case c1 => omega
  · (with_reducible rename PL (_ ++ _) _ _ => hpl)
    (with_reducible rename TIn _ _ _ _ (mergeP _ _) => htn)
    refine' hret' _ ((_, tupOf [_, _]) :: (_, _) :: _) _ _ _ _ _ ?F (drop_news ?N ?sub) ?ab ?c0 ?c1 (deed_fin hpl htn (deed_merge g1 g2 g3 g4 ha1 ha2))
    case F => k_asm
    case N => k_asm
    case sub => (simp only [List.cons_append]; kd_subs)
    case ab => exact above_cons' (lt_sub (by with_reducible assumption) (by kd_subs)) (above_cons' (lt_sub (by with_reducible assumption) (by kd_subs)) (above_at (by with_reducible assumption) (by kd_subs)))
    case c0 => assumption
    case c1 => omega
  · rename_i num tnum hnum0 hnum5 qk1 ek1 Dz h5z l1z h4z h3z h2z oz dz tk3z a2z tk2z a1z tk1z a0z tk0z h9z tk9z c9 t9z n9z hc9 hd9 x2 tx2 hx20 hx25 qkz ekz gl hz1 l1y hz0 o1' Fz Nz dg r9 tl9 h9 tk9 F9 N9 hl9 ho9
    have hIg : IntsAre [.int num tnum, .int x2 tx2] [num, x2] := .cons _ _ (.cons _ _ .nil)
    refine Stop.mk ?_
    refine ListComp_D (F₀ := by k_asm) (by with_unfolding_all rfl) (by decide) (by rfl) (by decide) (by rfl) ?_
    k_steps
    refine Stop.mk ⟨t1d, t1o, kvs1, T1, _, rfl, rfl, by k_asm, by k_asm, mem_sub hm2 (by ktr_rel), lo2, hd2, hf2, by omega, fun g => ?_⟩
    refine comp_own0 (fun k => !([num, x2].any (· == k))) (fun tl => List.mem_append_right _ (mem_sub hm2 (by ktr_rel))) ?_ ?_ ?_
    · intro i k q t I oI C oC D ys m₂ h tk tl E' Q' hT hC hx F2 N2 hQ
      k_steps
      exact hQ _
    · intro i k q t I oI C oC D ys m₂ h tk tl E' Q' hT hC hx F2 N2 hQ
      have hlk : T1.lookup k = some q := mem_lookup g2.2 (List.mem_of_getElem? hT)
      k_steps
      exact hQ _ _ _ _ (by k_asm) (by k_asm) (by assumption) (by assumption)
    · intro ys tl2 hp2 hab2
      unfold LCg.FinE
      intro D h tk F2 N2 o2x
      have hplT : PL ((D, LCg.lst ys) :: _) (.ref D) _ := PL.mk (.head _) (PairsIn.at hp2 (fun p hp => .tail _ hp))
      k_steps
      (with_reducible rename TIn _ _ _ _ (List.filter _ _) => htn)
      refine' hret' _ ((_, tupOf [_, _]) :: (_, _) :: _) _ _ _ _ _ ?F (drop_news ?N ?sub) ?ab ?c0 ?c1 (deed_fin ho9 htn (deed_filter g1 g2 ha1 (fun k => !([num, x2].any (· == k)))))
      case F => k_asm
      case N => k_asm
      case sub => (simp only [List.cons_append]; kd_subs)
      case ab => exact above_cons' (lt_sub (by with_reducible assumption) (by kd_subs)) (above_cons' (lt_sub (by with_reducible assumption) (by kd_subs)) (above_at (by with_reducible assumption) (by kd_subs)))
      case c0 => assumption
      case c1 => omega
end
end

section
open PySem PySem.W PyProof.Rows PySem.Calls PySem.Spec PyProof.V
set_option Elab.async false
set_option maxRecDepth 100000
theorem mod_known {prog : Program} {w : World} {A : Around} {E : Value → Shared → Prop} {s : Shared} {a b k : Int} {t u : Tok} {Q : Value → Shared → Prop} (hb : b ≠ 0) (hk : a.fmod b = k) (h : Q (.int k s.toks) { s with toks := s.toks + 1 }) : wpAny (model prog w) A (binaryOp .Mod (.int a t) (.int b u)) Q E s := by
  subst hk
  exact mod_int hb h
theorem lt_one {l : Led} {D d : Addr} {o : Obj} (h : ∀ p ∈ l, p.1 < D) (hm : (d, o) ∈ l) : (d, o).1 ≠ D := Nat.ne_of_lt (h _ hm)
theorem gt_one {l : Led} {D d : Addr} {o o' : Obj} (h : ∀ p ∈ l, p.1 < D) (hm : (d, o') ∈ l) : (D, o).1 ≠ d := Nat.ne_of_gt (h _ hm)
/-- a row of the law: a list and its table -/
structure RowIs (prog : Program) (w : World) (led : Led) (r : Addr) (v u : Value) (d T : DL) : Prop where
  tup : (r, tupOf [v, u]) ∈ led
  pl : PL led v d
  tab : TIn prog w led u T
  gd : Good d
  gT : Good T
  ag : ∀ k, d.lookup k = T.lookup k
theorem RowIs.mono {prog : Program} {w : World} {led led' : Led} {r : Addr} {v u : Value} {d T : DL} (h : RowIs prog w led r v u d T) (hs : ∀ p ∈ led, p ∈ led') : RowIs prog w led' r v u d T :=
  ⟨hs _ h.tup, h.pl.at hs, h.tab.mono hs, h.gd, h.gT, h.ag⟩
theorem RowIs.empty {prog : Program} {w : World} {led : Led} {r l e : Addr} {n : Nat} {o : Obj} (h1 : (r, tupOf [.ref l, .ref e]) ∈ led) (h2 : (l, listOf [].toArray n) ∈ led) (h3 : (e, o) ∈ led) (lo : (e == sysModules) = false) (hd : o.IsDictOf (intKind prog w) []) (hf : FlatPairs PyData.int [] []) : RowIs prog w led r (.ref l) (.ref e) [] [] :=
  ⟨h1, .mk h2 .nil, ⟨e, o, [], rfl, h3, lo, hd, hf⟩, ⟨fun _ h => (nomatch h), .nil⟩, ⟨fun _ h => (nomatch h), .nil⟩, fun _ => rfl⟩
abbrev lawNames : List PySem.Str := [PySem.Str.ofString "turn", PySem.Str.ofString "at", PySem.Str.ofString "plist", PySem.Str.ofString "other", PySem.Str.ofString "other_table", PySem.Str.ofString "shown", PySem.Str.ofString "found", PySem.Str.ofString "stayed"]
def LawJ (prog : Program) (w : World) (rw dk ca cb sl : Addr) (us : List Value) (nu : Nat) (m₀ : PySem.Str → Option Value) (i : Nat) (m₁ : PySem.Str → Option Value) (nx : Led) : Prop :=
  ∃ (r0 r1 : Addr) (n : Nat) (c : Int) (tc : Tok) (nc : Nat) (oa ob : Obj) (va vb : Option Value) (base : Led) (v0 u0 v1 u1 : Value) (d0 T0 d1 T1 : DL),
    nx = (rw, listOf [.ref r0, .ref r1].toArray n) :: (dk, deckO sl c tc nc) :: (ca, oa) :: (cb, ob) :: base ∧ Same lawNames m₀ m₁ ∧ oa.data = .cell va ∧ ob.data = .cell vb ∧ 0 ≤ c ∧ c ≤ 4 * (i : Int) ∧
    (sl, listOf us.toArray nu) ∈ base ∧ (∀ p ∈ base, p.1 ≠ rw) ∧ (∀ p ∈ base, p.1 ≠ dk) ∧ (∀ p ∈ base, p.1 ≠ ca) ∧ (∀ p ∈ base, p.1 ≠ cb) ∧
    RowIs prog w base r0 v0 u0 d0 T0 ∧ RowIs prog w base r1 v1 u1 d1 T1
section
variable {prog : Program} {w : World} {A : Around} {E : Value → Shared → Prop} {s : Shared} {env : Env} {h₀ : Heap} {body : List Stmt} {Q : Flow → Shared → Prop}
theorem law_iter {led : Led} {r rw dk ca cb sl l0 l1 e0 e1 p0 p1 : Addr} {n0 n1 n2 n3 nu : Nat} {tc : Tok} {oa ob x0 x1 : Obj} {va vb : Option Value} {us : List Value} {b₀ : Int} {t₀ u₀ v₀ : Tok} {m₀ : PySem.Str → Option Value}
    (hr : IsRange s.heap r 0 b₀ 1 t₀ u₀ v₀) (hh : A.handled = none) (hb : b₀ = ((10 : Nat) : Int)) (F : Fr h₀ env.locals s.heap m₀) (N : News h₀ env.locals s.heap led)
    (hs : ∀ p ∈ (rw, listOf [.ref p0, .ref p1].toArray n0) :: (dk, deckO sl 0 tc n1) :: (ca, oa) :: (cb, ob) :: [(sl, listOf us.toArray nu), (p0, tupOf [.ref l0, .ref e0]), (l0, listOf [].toArray n2), (e0, x0), (p1, tupOf [.ref l1, .ref e1]), (l1, listOf [].toArray n3), (e1, x1)], p ∈ led)
    (hoa : oa.data = .cell va) (hob : ob.data = .cell vb)
    (k1 : ∀ p ∈ [(sl, listOf us.toArray nu), (p0, tupOf [.ref l0, .ref e0]), (l0, listOf [].toArray n2), (e0, x0), (p1, tupOf [.ref l1, .ref e1]), (l1, listOf [].toArray n3), (e1, x1)], p.1 ≠ rw)
    (k2 : ∀ p ∈ [(sl, listOf us.toArray nu), (p0, tupOf [.ref l0, .ref e0]), (l0, listOf [].toArray n2), (e0, x0), (p1, tupOf [.ref l1, .ref e1]), (l1, listOf [].toArray n3), (e1, x1)], p.1 ≠ dk)
    (k3 : ∀ p ∈ [(sl, listOf us.toArray nu), (p0, tupOf [.ref l0, .ref e0]), (l0, listOf [].toArray n2), (e0, x0), (p1, tupOf [.ref l1, .ref e1]), (l1, listOf [].toArray n3), (e1, x1)], p.1 ≠ ca)
    (k4 : ∀ p ∈ [(sl, listOf us.toArray nu), (p0, tupOf [.ref l0, .ref e0]), (l0, listOf [].toArray n2), (e0, x0), (p1, tupOf [.ref l1, .ref e1]), (l1, listOf [].toArray n3), (e1, x1)], p.1 ≠ cb)
    (q1 : ∀ p ∈ [(dk, deckO sl 0 tc n1), (ca, oa), (cb, ob)], p.1 ≠ rw) (q2 : ∀ p ∈ [(ca, oa), (cb, ob)], p.1 ≠ dk) (q3 : ∀ p ∈ [(cb, ob)], p.1 ≠ ca)
    (lo0 : (e0 == sysModules) = false) (hd0 : x0.IsDictOf (intKind prog w) []) (lo1 : (e1 == sysModules) = false) (hd1 : x1.IsDictOf (intKind prog w) [])
    (turn : dk ≠ rw → ca ≠ rw → cb ≠ rw → ca ≠ dk → cb ≠ dk → cb ≠ ca → ∀ (i : Nat) t m₁ nx h tk own, i < 10 → OwnOff own (nx.map (·.1)) → LawJ prog w rw dk ca cb sl us nu m₀ i m₁ nx → Fr h₀ env.locals h (fun y => if y = PySem.Str.ofString "turn" then some (.int (i : Int) t) else m₁ y) → News h₀ env.locals h (nx ++ own) →
      wpAny (model prog w) A (execs body env) (InvPostG h₀ env.locals (LawJ prog w rw dk ca cb sl us nu m₀ (i + 1)) own { s with heap := h, toks := tk } Q) E { s with heap := h, toks := tk })
    (done : ∀ m₁ nx h tk, Same lawNames m₀ m₁ → Fr h₀ env.locals h m₁ → News h₀ env.locals h nx → Q .next { s with heap := h, toks := tk }) :
    wpAny (model prog w) A (pyIter (.ref r)) (fun it s₂ => LoopAtV prog w A h₀ env (PySem.Str.ofString "turn") body Q E it s₂) E s := by
  refine rng_iter (n := 10) (LawJ prog w rw dk ca cb sl us nu m₀) hr hh hb (by decide) F (drop_news N hs) ?_ (turn (q1 _ (.head _)) (q1 _ (.tail _ (.head _))) (q1 _ (.tail _ (.tail _ (.head _)))) (q2 _ (.head _)) (q2 _ (.tail _ (.head _))) (q3 _ (.head _))) ?_
  · exact ⟨p0, p1, n0, 0, tc, n1, oa, ob, va, vb, _, _, _, _, _, [], [], [], [], rfl, Same.rfl, hoa, hob, Int.le_refl _, by decide, .head _, k1, k2, k3, k4,
      RowIs.empty (l := l0) (.tail _ (.head _)) (.tail _ (.tail _ (.head _))) (.tail _ (.tail _ (.tail _ (.head _)))) lo0 hd0 .nil,
      RowIs.empty (l := l1) (.tail _ (.tail _ (.tail _ (.tail _ (.head _))))) (.tail _ (.tail _ (.tail _ (.tail _ (.tail _ (.head _)))))) (.tail _ (.tail _ (.tail _ (.tail _ (.tail _ (.tail _ (.head _))))))) lo1 hd1 .nil⟩
  · rintro m₁ nx h tk ⟨_, _, _, _, _, _, _, _, _, _, _, _, _, _, _, _, _, _, _, _, hm, _⟩ F' N'
    exact done m₁ nx h tk hm F' N'
end
end

section
open PySem PySem.W PyProof.Rows PySem.Calls PySem.Spec PyProof.V
set_option Elab.async false
set_option maxRecDepth 100000
theorem ints_get {vs : List Value} {ns : List Int} (h : IntsAre vs ns) : ∀ {i : Nat} {v : Value}, vs[i]? = some v → ∃ k t, v = .int k t ∧ ns[i]? = some k := by
  induction h with
  | nil => intro i v h; simp at h
  | cons k t h ih =>
    intro i v hv
    cases i with
    | zero => simp at hv; subst hv; exact ⟨k, t, rfl, rfl⟩
    | succ i => exact ih (by simpa using hv)
section
variable {prog : Program} {w : World} {A : Around} {s : Shared} {h₀ : Heap} {L : Addr} {m : PySem.Str → Option Value} {env : Env}
theorem comp_ints {ct elt : Expr} {x : PySem.Str} {scope : Scope} {cl : List (PySem.Str × Addr)} {S : Led → Prop} {Fin : List Value → Led → Prop} {news : Led} {ws : List Value} {ns : List Int} (tst : Int → Bool) (hI : IntsAre ws ns)
    (hS : S news)
    (ht : ∀ k t I oI C oC D ys m₂ h tk (E' : Value → Shared → Prop) (Q' : Bool → Shared → Prop), LCg.NsObj oC m₂ → m₂ x = some (.int k t) → Fr h₀ L h m → News h₀ L h ((I, oI) :: (C, oC) :: (D, LCg.lst ys) :: news) → (∀ tk', Q' (tst k) { s with heap := h, toks := tk' }) →
      wpAny (model prog w) A (isTrue ct (compEnvC scope cl C env) (eval ct (compEnvC scope cl C env))) Q' E' { s with heap := h, toks := tk })
    (he : ∀ k t I oI C oC D ys m₂ h tk (E' : Value → Shared → Prop) (Q' : Value → Shared → Prop), LCg.NsObj oC m₂ → m₂ x = some (.int k t) → Fr h₀ L h m → News h₀ L h ((I, oI) :: (C, oC) :: (D, LCg.lst ys) :: news) → (∀ tk', Q' (.int k t) { s with heap := h, toks := tk' }) →
      wpAny (model prog w) A (eval elt (compEnvC scope cl C env)) Q' E' { s with heap := h, toks := tk })
    (hf : ∀ ys, IntsAre ys (ns.filter tst) → Fin ys news) :
    ∀ k i ys, i + k = ws.length → IntsAre ys ((ns.take i).filter tst) → LCt.CompRestT prog w A h₀ L m env ct elt x scope cl s S (fun i v => ws.toArray[i]? = some v) Fin k i ys news
  | 0, i, ys, hk, hi => by
    refine LCt.CompRestT.zero (hf ys ?_)
    rw [List.take_of_length_le (by rw [← hI.length]; omega)] at hi
    exact hi
  | k + 1, i, ys, hk, hi => by
    refine LCt.CompRestT.succ ?_
    intro v I oI C oC D m₂ h tk E' hP hC hx F N off ne
    obtain ⟨kk, t, rfl, hT⟩ := ints_get hI (show ws[i]? = some v by simpa using hP)
    have hnext : (ns.take (i + 1)).filter tst = (ns.take i).filter tst ++ (if tst kk then [kk] else []) := by
      rw [List.take_add_one, hT]
      simp only [Option.toList_some, List.filter_append]
      congr 1
      cases h9 : tst kk <;> simp [h9]
    refine ht kk t I oI C oC D ys m₂ h tk E' _ hC hx F N fun tk' => ?_
    cases htst : tst kk with
    | true =>
      simp only [if_true]
      refine he kk t I oI C oC D ys m₂ h tk' E' _ hC hx F N fun tk'' => ?_
      refine LCg.CompEnd.intro (s₁ := { s with heap := h, toks := tk }) F N news (fun _ h => h) off hS ?_
      refine comp_ints tst hI hS ht he hf k (i + 1) _ (by omega) ?_
      rw [hnext, htst]
      exact IntsAre.snoc hi kk t
    | false =>
      simp only [Bool.false_eq_true, if_false]
      refine LCg.CompEnd.intro (s₁ := { s with heap := h, toks := tk }) F N news (fun _ h => h) off hS ?_
      refine comp_ints tst hI hS ht he hf k (i + 1) _ (by omega) ?_
      rw [hnext, htst]
      simpa using hi
end
section
variable {prog : Program} {w : World} {p : Program} {loose : List PySem.Str} {mean : ExcName → Option Value} {mg mb : PySem.Str → Option Value} {cc : Nat} {f : Addr} {vs : List Value}
/-- a call that draws, the deck behind one other entry of the ledger -/
theorem TlD.use {Out : Led → Value → Prop} {dk sl rw : Addr} {ro : Obj} {j c : Int} {t : Tok} {n : Nat} {us : List Value} {ns : List Int} {un' : Nat} {L0 cells own : Led} {dp un : Nat} {cn : PySem.Str} {cs : Scope} {a : Addr} {ccd : Value} {cl : List (PySem.Str × Addr)} {outer : List Env} {A₀ : Around} {base h₀ : Heap} {L : Addr} {m : PySem.Str → Option Value} {s : Shared} {Q E : Value → Shared → Prop}
    (C : TlD prog w p loose mean mg mb cc f vs dk sl j L0 ((rw, ro) :: (cells ++ (L0 ++ own))) Out) (B : Below A₀ base outer h₀) (F : Fr h₀ L s.heap m) (X : (Mine.hd.heap_39 w.params).In h₀) (N : News h₀ L s.heap ((rw, ro) :: (dk, deckO sl c t n) :: (cells ++ (L0 ++ own)))) (hne : ∀ p ∈ (rw, ro) :: (cells ++ (L0 ++ own)), p.1 ≠ dk) (hsl : (sl, listOf us.toArray un') ∈ L0) (hI : IntsAre us ns) (hns : ns.length ≤ 60) (hc0 : 0 ≤ c) (hc1 : c ≤ 900) (T : Top p loose mean mg mb h₀) (hk : cs.kind = .function) (hd : dp + cc < recursionLimit) (hu : un + 10 * cc < cLine)
    (ret : ∀ r tl h' tk' c' t' n', Fr h₀ L h' m → News h₀ L h' ((rw, ro) :: (dk, deckO sl c' t' n') :: (cells ++ (tl ++ (L0 ++ own)))) → (∀ p ∈ tl, p.1 ≠ dk) → Above ((rw, ro) :: (cells ++ (L0 ++ own))) tl → 0 ≤ c' → c' ≤ c + j → Out (tl ++ L0) r → Q r { s with heap := h', toks := tk' }) :
    wpAny (model prog w) (ktrTop dp un (some []) cn cs L a ccd cl outer) (call (.ref f) vs) Q E s :=
  C (fun p hp => .tail _ (List.mem_append_right _ (List.mem_append_left _ hp))) _ _ _ _ _ _ _ _ _ _ _ _ _ _ _ _ _ _ _ _ _ _ B F X (fun q hq => N q (by
      rcases List.mem_cons.mp hq with rfl | hq
      · exact .tail _ (.head _)
      · rcases List.mem_cons.mp hq with rfl | hq
        · exact .head _
        · exact .tail _ (.tail _ hq))) hne (.tail _ (List.mem_append_right _ (List.mem_append_left _ hsl))) hI hns hc0 hc1 T hk hd hu
    fun r tl h' tk' c' t' n' F' N' h1 ha h2 h3 ho => ret r tl h' tk' c' t' n' F' (fun q hq => N' q (by
      rcases List.mem_cons.mp hq with rfl | hq
      · exact .tail _ (List.mem_append_right _ (.head _))
      · rcases List.mem_cons.mp hq with rfl | hq
        · exact .head _
        · rcases List.mem_append.mp hq with hq | hq
          · exact .tail _ (List.mem_append_right _ (.tail _ (List.mem_append_left _ hq)))
          · rcases List.mem_append.mp hq with hq | hq
            · exact .tail _ (List.mem_append_left _ hq)
            · exact .tail _ (List.mem_append_right _ (.tail _ (List.mem_append_right _ hq))))) h1 ha h2 h3 ho
end
theorem fr_law {h₀ h : Heap} {L : Addr} {m₁ : PySem.Str → Option Value} {v a b : Value} (h1 : m₁ (PySem.Str.ofString "deck") = some a) (h2 : m₁ (PySem.Str.ofString "rows") = some b) (F : Fr h₀ L h (fun y => if y = PySem.Str.ofString "turn" then some v else m₁ y)) :
    Fr h₀ L h (fun y => if y = PySem.Str.ofString "turn" then some v else if y = PySem.Str.ofString "deck" then some a else if y = PySem.Str.ofString "rows" then some b else m₁ y) := by
  have e : (fun y => if y = PySem.Str.ofString "deck" then some a else if y = PySem.Str.ofString "rows" then some b else m₁ y) = m₁ := by
    funext y
    by_cases hd : y = PySem.Str.ofString "deck"
    · rw [if_pos hd, hd, h1]
    · rw [if_neg hd]
      by_cases hr : y = PySem.Str.ofString "rows"
      · rw [if_pos hr, hr, h2]
      · rw [if_neg hr]
  have e2 : (fun y => if y = PySem.Str.ofString "turn" then some v else if y = PySem.Str.ofString "deck" then some a else if y = PySem.Str.ofString "rows" then some b else m₁ y) = fun y => if y = PySem.Str.ofString "turn" then some v else m₁ y := by
    funext y
    by_cases ht : y = PySem.Str.ofString "turn"
    · rw [if_pos ht, if_pos ht]
    · rw [if_neg ht, if_neg ht]; exact congrFun e y
  rw [e2]; exact F
theorem same_law {but : List PySem.Str} {m₀ m₁ : PySem.Str → Option Value} {a b : Value} (h : Same but m₀ m₁) (h1 : m₁ (PySem.Str.ofString "deck") = some a) (h2 : m₁ (PySem.Str.ofString "rows") = some b) :
    Same but m₀ (fun y => if y = PySem.Str.ofString "deck" then some a else if y = PySem.Str.ofString "rows" then some b else m₁ y) := by
  intro z hz
  by_cases hd : z = PySem.Str.ofString "deck"
  · simp only [if_pos hd]; rw [← h1, ← hd]; exact h z hz
  · simp only [if_neg hd]
    by_cases hr : z = PySem.Str.ofString "rows"
    · simp only [if_pos hr]; rw [← h2, ← hr]; exact h z hz
    · simp only [if_neg hr]; exact h z hz
theorem TIn.ref {prog : Program} {w : World} {news : Led} {v : Value} {T : DL} (h : TIn prog w news v T) : ∃ e, v = .ref e := let ⟨d, _, _, e, _⟩ := h; ⟨d, e⟩
theorem filter_in {d T : DL} : (d.map (·.1)).filter (fun k => (T.lookup k).isSome) = (d.map (·.1)).filter (fun k => (T.lookup k).isSome) := rfl
theorem ints_size {ws : List Value} {ns : List Int} (h : IntsAre ws ns) (hn : ns.length ≤ 1000) : ws.toArray.size ≤ sizeLine := by
  rw [List.size_toArray, h.length]
  exact Nat.le_trans hn (by decide)
theorem keys_len {d : DL} (h : d.length ≤ 1000) : (d.map (·.1)).length ≤ 1000 := by simpa using h
theorem sub_both {a c : Led} {x : Addr × Obj} (h : ∀ p ∈ a, p ∈ c) : ∀ p ∈ x :: a, p ∈ x :: c := fun p hp => by
  rcases List.mem_cons.mp hp with rfl | hp
  · exact .head _
  · exact .tail _ (h p hp)
theorem law_off {own base tl : Led} {a b c d D : Addr} {oa ob oc od oa' ob' oc' od' oD : Obj} (h : OwnOff own (((a, oa) :: (b, ob) :: (c, oc) :: (d, od) :: base).map (·.1))) (hD : ∀ p ∈ own, p.1 ≠ D) (ht : ∀ p ∈ own, ∀ q ∈ tl, p.1 ≠ q.1) :
    OwnOff own (((a, oa') :: (b, ob') :: (c, oc') :: (d, od') :: (D, oD) :: (tl ++ base)).map (·.1)) := by
  intro p hp x hx
  have h' := h p hp
  simp only [List.map_cons, List.map_append, List.mem_cons, List.mem_append] at hx h'
  rcases hx with rfl | rfl | rfl | rfl | rfl | hx | hx
  · exact h' _ (.inl rfl)
  · exact h' _ (.inr (.inl rfl))
  · exact h' _ (.inr (.inr (.inl rfl)))
  · exact h' _ (.inr (.inr (.inr (.inl rfl))))
  · exact hD p hp
  · obtain ⟨q, hq, rfl⟩ := List.mem_map.mp hx
    exact ht p hp q hq
  · exact h' _ (.inr (.inr (.inr (.inr hx))))
theorem gt_ne {l : Led} {D d : Addr} {o : Obj} (h : ∀ p ∈ l, p.1 < D) (hm : (d, o) ∈ l) : D ≠ d := Nat.ne_of_gt (h _ hm)
theorem ne_all {l K : Led} {D : Addr} (h : ∀ p ∈ l, p.1 < D) (hs : ∀ p ∈ K, p ∈ l) : ∀ p ∈ K, p.1 ≠ D := fun p hp => Nat.ne_of_lt (h p (hs p hp))
theorem law_sub {a b c d e : Addr × Obj} {tl base own : Led} : ∀ p ∈ a :: b :: c :: d :: e :: (tl ++ base), p ∈ e :: a :: b :: c :: d :: (tl ++ (base ++ own)) := fun p hp => by
  simp only [List.mem_cons, List.mem_append] at hp ⊢
  rcases hp with h | h | h | h | h | h | h
  · exact .inr (.inl h)
  · exact .inr (.inr (.inl h))
  · exact .inr (.inr (.inr (.inl h)))
  · exact .inr (.inr (.inr (.inr (.inl h))))
  · exact .inl h
  · exact .inr (.inr (.inr (.inr (.inr (.inl h)))))
  · exact .inr (.inr (.inr (.inr (.inr (.inr (.inl h))))))
theorem law_own {a b c d e : Addr × Obj} {tl base own : Led} : ∀ p ∈ own, p ∈ e :: a :: b :: c :: d :: (tl ++ (base ++ own)) := sub_cons (sub_cons (sub_cons (sub_cons (sub_cons (sub_right (sub_right sub_refl))))))
theorem law_count {i : Nat} {c d : Int} (h : d ≤ c + 4) (h2 : c ≤ 4 * (i : Int)) : d ≤ 4 * ((i + 1 : Nat) : Int) := by omega
/-- the turn's end -/
theorem law_end {prog : Program} {w : World} {h₀ : Heap} {L : Addr} {m₀ m' : PySem.Str → Option Value} {s₁ : Shared} {h' : Heap} {tk : Nat} {rw dk ca cb sl D a b : Addr} {us : List Value} {nu i n n9 : Nat} {c c9 : Int} {t9 : Tok} {oc9 oz : Obj} {va vb : Option Value} {ro' oA oB oC oD : Obj} {tl base own : Led} {v0 w0 v1 w1 : Value} {d0 T0 d1 T1 : DL}
    (F : Fr h₀ L h' m') (N : News h₀ L h' ((D, ro') :: (rw, listOf [.ref a, .ref b].toArray n) :: (dk, deckO sl c9 t9 n9) :: (ca, oc9) :: (cb, oz) :: (tl ++ (base ++ own)))) (hm : Same lawNames m₀ m')
    (hoc : oc9.data = .cell va) (hoz : oz.data = .cell vb) (h0 : 0 ≤ c9) (h4 : c9 ≤ c + 4) (hc : c ≤ 4 * (i : Int)) (hsl : (sl, listOf us.toArray nu) ∈ base)
    (hn1 : D ≠ rw) (hn2 : D ≠ dk) (hn3 : D ≠ ca) (hn4 : D ≠ cb) (htr : ∀ p ∈ tl, p.1 ≠ rw) (htd : ∀ p ∈ tl, p.1 ≠ dk) (hta : ∀ p ∈ tl, p.1 ≠ ca) (htb : ∀ p ∈ tl, p.1 ≠ cb) (hbr : ∀ p ∈ base, p.1 ≠ rw) (hbd : ∀ p ∈ base, p.1 ≠ dk) (hba : ∀ p ∈ base, p.1 ≠ ca) (hbb : ∀ p ∈ base, p.1 ≠ cb)
    (R0 : RowIs prog w ((D, ro') :: (tl ++ base)) a v0 w0 d0 T0) (R1 : RowIs prog w ((D, ro') :: (tl ++ base)) b v1 w1 d1 T1)
    (hoff : OwnOff own (((rw, oA) :: (dk, oB) :: (ca, oC) :: (cb, oD) :: base).map (·.1))) (hno : ∀ p ∈ own, p.1 ≠ D) (hto : ∀ p ∈ own, ∀ q ∈ tl, p.1 ≠ q.1) :
    InvEndG h₀ L (LawJ prog w rw dk ca cb sl us nu m₀ (i + 1)) own s₁ { s₁ with heap := h', toks := tk } :=
  InvEndG.intro F N (nx := (rw, listOf [.ref a, .ref b].toArray n) :: (dk, deckO sl c9 t9 n9) :: (ca, oc9) :: (cb, oz) :: (D, ro') :: (tl ++ base))
    ⟨a, b, n, c9, t9, n9, oc9, oz, va, vb, (D, ro') :: (tl ++ base), v0, w0, v1, w1, d0, T0, d1, T1, rfl, hm, hoc, hoz, h0, law_count h4 hc, .tail _ (List.mem_append_right _ hsl),
      List.forall_mem_cons.mpr ⟨hn1, List.forall_mem_append.mpr ⟨htr, hbr⟩⟩, List.forall_mem_cons.mpr ⟨hn2, List.forall_mem_append.mpr ⟨htd, hbd⟩⟩, List.forall_mem_cons.mpr ⟨hn3, List.forall_mem_append.mpr ⟨hta, hba⟩⟩, List.forall_mem_cons.mpr ⟨hn4, List.forall_mem_append.mpr ⟨htb, hbb⟩⟩, R0, R1⟩
    (law_off hoff hno hto) law_sub law_own
theorem RowIs.new {prog : Program} {w : World} {tl base : Led} {D : Addr} {v u : Value} {d T : DL} (P : PL (tl ++ base) v d) (B : TIn prog w (tl ++ base) u T) (G : Good d) (GT : Good T) (A : ∀ k, d.lookup k = T.lookup k) : RowIs prog w ((D, tupOf [v, u]) :: (tl ++ base)) D v u d T := ⟨.head _, P.at (sub_cons sub_refl), B.mono (sub_cons sub_refl), G, GT, A⟩
theorem RowIs.old {prog : Program} {w : World} {tl base : Led} {q : Addr × Obj} {r : Addr} {v u : Value} {d T : DL} (h : (r, tupOf [v, u]) ∈ base) (P : PL base v d) (B : TIn prog w base u T) (G : Good d) (GT : Good T) (A : ∀ k, d.lookup k = T.lookup k) : RowIs prog w (q :: (tl ++ base)) r v u d T := ⟨.tail _ (List.mem_append_right _ h), P.at (sub_cons (sub_right sub_refl)), B.mono (sub_cons (sub_right sub_refl)), G, GT, A⟩
theorem fmod_two (i : Nat) : (i : Int).fmod 2 = 0 ∨ (i : Int).fmod 2 = 1 := by
  rw [Int.fmod_eq_emod_of_nonneg _ (by decide)]
  omega
section
variable {prog : Program} {w : World} {A : Around} {E : Value → Shared → Prop} {s : Shared} {h₀ : Heap} {L : Addr} {news : Led}
theorem row_list {value slice : PySem.Expr} {l : Addr} {x y v : Value} {n : Nat} {k : Int} {u : Tok} {Q : Value → Shared → Prop} (N : News h₀ L s.heap news) (hm : (l, listOf [x, y].toArray n) ∈ news) (h0 : 0 ≤ k) (h1 : k < 2) (hx : [x, y][k.toNat]? = some v) (h : Q v s)
    (hs : subscripted slice false (.ref l) (.int k u) = operate [.ref l, .int k u] (getItem (.ref l) (.int k u)) := by with_unfolding_all rfl) :
    wpAny (model prog w) A (subscriptTail value slice (.ref l) (.int k u)) Q E s := by
  have hl : s.heap.IsList l [x, y].toArray := ⟨_, (N _ hm).1, rfl, n, rfl⟩
  exact tail_any hl.typeIs slot_list_getitem.lookup (wpAny_getItem_list hl h0 (by omega) (by simpa using hx) h) hs
theorem row_tup {value slice : PySem.Expr} {l : Addr} {x y v : Value} {k : Int} {u : Tok} {j : Nat} {Q : Value → Shared → Prop} (N : News h₀ L s.heap news) (hm : (l, tupOf [x, y]) ∈ news) (h0 : 0 ≤ k) (h1 : k < 2) (hj : seqIndex? k 2 = some j) (hx : [x, y][j]? = some v) (h : Q v s)
    (hs : subscripted slice false (.ref l) (.int k u) = operate [.ref l, .int k u] (getItem (.ref l) (.int k u)) := by with_unfolding_all rfl) :
    wpAny (model prog w) A (subscriptTail value slice (.ref l) (.int k u)) Q E s :=
  item_tupleT (l := [x, y]) ⟨_, (N _ hm).1, rfl, _, rfl⟩ (by omega) (by omega) hj hx h hs
end
end

section
open PySem PySem.W PyProof.Rows PySem.Calls PySem.Spec
set_option Elab.async false
set_option maxRecDepth 100000
set_option maxHeartbeats 8000000
set_option pp.deepTerms.threshold 3
set_option pp.deepTerms false
variable {prog : Program} {w : World} {p : Program} {loose : List PySem.Str} {mean : ExcName → Option Value} {mg mb : PySem.Str → Option Value}

section
local macro_rules | `(tactic| walk_at "setItem ref int") => `(tactic| ((with_reducible show wpAny _ _ (setItem (Value.ref _) (Value.int _ _) _) _ _ _); refine stop ?_))
local macro_rules | `(tactic| kd_in) => `(tactic| first | (with_reducible exact List.mem_cons_self) | ((with_reducible refine List.mem_cons_of_mem _ ?_); kd_in))
local macro_rules | `(tactic| ktr_unf) => `(tactic| first | exact List.forall_mem_nil _ | ((with_reducible refine List.forall_mem_cons.mpr ⟨?sa, ?sb⟩); (case sa => kd_in); (case sb => ktr_unf)))
local macro_rules | `(tactic| tb_rel) => `(tactic| first | exact List.forall_mem_nil _ | ((with_reducible refine List.forall_mem_cons.mpr ⟨?sa, ?sb⟩); (case sa => first | exact lt_one (by with_reducible assumption) (by kd_in) | exact gt_one (by with_reducible assumption) (by kd_in) | ((show @Ne Nat _ _); dsimp only; omega)); (case sb => tb_rel)))
local macro_rules | `(tactic| walk_at "eval ListComp") => `(tactic| refine stop ?_)
local macro_rules | `(tactic| walk_at "SrcD") => `(tactic| refine stop ?_)
local macro_rules | `(tactic| walk_at "exec Assign cons ListComp") => `(tactic| refine stop ?_)
local macro_rules | `(tactic| walk_at "pyIter ref") => `(tactic| ((with_reducible show wpAny _ _ (pyIter (Value.ref _)) (fun it s₂ => LoopAtV _ _ _ _ _ (PySem.Str.ofString "turn") _ _ _ it s₂) _ _); refine stop ?_))
local macro_rules | `(tactic| k_ne) => `(tactic| first | assumption | exact Ne.symm (by assumption) | exact ne_fresh (by assumption) (by k_mem) | exact (ne_fresh (by assumption) (by k_mem)).symm)
local macro_rules | `(tactic| k_all) => `(tactic| first | exact List.forall_mem_nil _ | with_reducible assumption | ((with_reducible refine List.forall_mem_append.mpr ⟨?kaa, ?kab⟩); (case kaa => k_all); (case kab => k_all)) | ((with_reducible refine List.forall_mem_cons.mpr ⟨?kac, ?kad⟩); (case kac => first | assumption | exact Ne.symm (by assumption) | exact ne_fresh (by assumption) (by k_mem) | exact (ne_fresh (by assumption) (by k_mem)).symm); (case kad => k_all)) | exact ne_lt (by assumption) | exact ne_sub (ne_lt (by assumption)) (by ktr_rel))
local macro_rules | `(tactic| walk_at "binaryOp Mod int int") => `(tactic| (k_here; (with_reducible show wpAny _ _ (binaryOp _ (Value.int _ _) (Value.int _ _)) _ _ _); k_dflt (refine' mod_known ?k1 ?k2 ?_; (case k1 => decide); (case k2 => assumption); k_whole)))
local macro_rules | `(tactic| walk_at "call ref") => `(tactic| (k_here; k_dflt (refine' TlV.use2 (like_tl ?c1 ?c2 ?c3 ?c4 ?c5) ?k ?_; (case k => kwd_inv); (case c1 => exact PL.at (by assumption) (by ktr_rel)); (case c2 => exact TIn.mono (by assumption) (by ktr_rel)); (case c3 => assumption); (case c4 => assumption); (case c5 => assumption)); intro r9 h9 tk9 F9 N9 ho9; subst ho9; (try dsimp only); (try k_fold)))
local macro_rules | `(tactic| walk_at "call ref") => `(tactic| (k_here; k_dflt (refine' TlV.use2 (right_tl ?c01 ?c02 ?c03 ?c04 ?c05 ?c06 ?c07 ?c08 ?c09 ?c10) ?k ?_; (case k => kwd_inv); (case c01 => exact PL.at (by assumption) (by ktr_rel)); (case c02 => exact TIn.mono (by assumption) (by ktr_rel)); (case c03 => exact PL.at (by assumption) (by ktr_rel)); (case c04 => exact TIn.mono (by assumption) (by ktr_rel)); (case c05 => assumption); (case c06 => assumption); (case c07 => assumption); (case c08 => assumption); (case c09 => assumption); (case c10 => assumption)); intro r9 h9 tk9 F9 N9 ho9; subst ho9; (try dsimp only); (try k_fold)))
local macro_rules | `(tactic| walk_at "call ref") => `(tactic| (k_here; k_dflt (refine' Tl.use2 (order_tl ?c1 ?c2) ?hs ?k ?_; (case k => kwd_inv); (case c1 => exact PL.at (by assumption) (by ktr_rel)); (case c2 => assumption); (case hs => exact sub_refl)); intro r9 tl9 h9 tk9 F9 N9 hl9 ho9; obtain ⟨D9, ws9, n9, hr9, hm9, hI9⟩ := ho9; subst hr9; (try dsimp only); (try k_fold)))
local macro_rules | `(tactic| walk_at "call ref") => `(tactic| ((with_reducible show wpAny _ _ (call (Value.ref 111) _) _ _ _); refine stop ?_))
local macro_rules | `(tactic| walk_at "call builtin:repr") => `(tactic| (k_here; k_dflt (refine' r_two ?k1 ?k2 ?k3 ?k4 ?k5 ?k6 ?k7 ?k8 ?k9 ?k10 ?_; (case k6 => k_asm); (case k7 => k_asm); (case k8 => k_mem); (case k1 => assumption); (case k2 => assumption); (case k3 => ktr_rel); (case k4 => assumption); (case k5 => assumption); (case k9 => exact rfl); (case k10 => ktr_units); k_whole); intro h' u' tk' F' N'; (try k_sweep)))
local macro_rules | `(tactic| walk_at "compareOp NotEq ref ref") => `(tactic| (k_here; (with_reducible show wpAny _ _ (compareOp CmpOp.NotEq (Value.ref _) (Value.ref _)) _ _ _); k_dflt (refine' ne_intsK ?k1 ?k2 ?k3 ?k4 ?k5 ?_; (case k1 => exact News.isList (by k_asm) (by k_mem)); (case k2 => assumption); (case k3 => exact News.isList (by k_asm) (by k_mem)); (case k4 => assumption); (case k5 => ktr_units); k_whole)))
local macro_rules | `(tactic| walk_at "subscriptTail Name Constant ref int") => `(tactic| (k_here; (with_reducible show wpAny _ _ (subscriptTail _ _ (Value.ref _) (Value.int _ _)) _ _ _); k_dflt (first | (refine' row_list ?k1 ?k2 ?k3 ?k4 ?k5 ?_ ?k6; (case k1 => k_asm); (case k2 => kd_in); (case k3 => decide); (case k4 => decide); (case k5 => exact rfl); (case k6 => with_unfolding_all rfl))); k_whole))



set_option maxHeartbeats 80000000 in
theorem law_holds : PySem.Challenge.rw_ok0041_01.Holds := hd (by
  w_top off
  k_go0
  all_goals try k_fold
  rename_i Fz o1 o2 hc1 hc2 N0 X0
  replace hc1 : o1.data = .cell none := hc1
  replace hc2 : o2.data = .cell none := hc2
  k_steps
  rename_i hr Fa Na ka
  clear ka
  refine Stop.mk ?_
  refine' law_iter hr rfl rfl Fa Na ?hs ?hoa ?hob ?k1 ?k2 ?k3 ?k4 ?q1 ?q2 ?q3 ?lo0 ?hd0 ?lo1 ?hd1 ?turn ?done
  case hoa => exact hc1
  case hob => exact hc2
  case hs => ktr_unf
  case lo0 => assumption
  case lo1 => assumption
  case hd0 => assumption
  case hd1 => assumption
  case k1 => tb_rel
  case k2 => tb_rel
  case k3 => tb_rel
  case k4 => tb_rel
  case q1 => tb_rel
  case q2 => tb_rel
  case q3 => tb_rel
  case turn =>
    rename_i D4 c' h14 l10 D3 ws h13 hI hC hL l9 l3 h12 l8 l2 h11 l7 d1x h10 o1x lo1 hs1 fs1 hi1 fi1 l6 D2 h9 l5 l1x h8 l4 d0x h7 o0x lo0 hs0 fs0 hi0 fi0 l3x D1 h6 l2x l0x h5 l1f D0 h4 l1g h3 h2 h1 F' N' hz tk' t1 u1 v1
    clear Na hr N' F' l1g l1f l2x l3x l4 l5 l6 l7 l8 l9 l10 hs1 fs1 hi1 fi1 lo1 hs0 fs0 hi0 fi0 lo0 X0
    have hws : (List.take 60 _).length ≤ 60 := hC ▸ Nat.min_le_left _ _
    clear hC hL
    intro hdr har hbr' had hbd' hba'
    rintro i t m₁ nx h tk own hi hoff ⟨r0, r1, n, c, tc, nc, oa, ob, va, vb, base, v0, w0, v1, w1, d0, T0, d1, T1, rfl, hm, hoa, hob, hc0, hc4, hsl, hbr, hbd, hba, hbb, R0, R1⟩ F₁ N₁
    obtain ⟨hr0, P0, B0, G0, GT0, A0⟩ := R0
    obtain ⟨hr1, P1, B1, G1, GT1, A1⟩ := R1
    obtain ⟨e0, rfl⟩ := B0.ref
    obtain ⟨e1, rfl⟩ := B1.ref
    simp only [List.cons_append] at N₁
    have hor : ∀ p ∈ own, p.1 ≠ _ := fun p hp => hoff p hp _ (.head _)
    have hod : ∀ p ∈ own, p.1 ≠ _ := fun p hp => hoff p hp _ (.tail _ (.head _))
    have hoa' : ∀ p ∈ own, p.1 ≠ _ := fun p hp => hoff p hp _ (.tail _ (.tail _ (.head _)))
    have hob' : ∀ p ∈ own, p.1 ≠ _ := fun p hp => hoff p hp _ (.tail _ (.tail _ (.tail _ (.head _))))
    have hmd := (hm.at (z := PySem.Str.ofString "deck") (by decide)).trans (if_pos rfl)
    have hmr := (hm.at (z := PySem.Str.ofString "rows") (by decide)).trans ((if_neg (by decide)).trans (if_pos rfl))
    have hm2 := same_law hm hmd hmr
    replace F₁ := fr_law hmd hmr F₁
    clear hmd hmr Fa hm
    have y0 : d0.length ≤ 1000 := Nat.le_trans G0.len (by decide)
    have y1 : d1.length ≤ 1000 := Nat.le_trans G1.len (by decide)
    refine (fmod_two i).elim (fun hp => ?_) (fun hp => ?_)
    · k_steps
      rename_i oz hoz hz5 hz4 hz3 tkz lz hz2 lz1 hz1 uz tkz' hz0 Fz Nz
      refine Stop.mk ?_
      have N10 := drop_news (news := (l0x, listOf [.ref r0, .ref r1].toArray n) :: (l3, deckO D3 c tc nc) :: ([(_, oa), (_, oz)] ++ (base ++ own))) Nz (sub_cons (sub_cons sub_refl))
      refine' TlD.use (rw := l0x) (ro := listOf [.ref r0, .ref r1].toArray n) (cells := [(_, oa), (_, oz)]) (own := own) (deed_tl (L0 := base) P0 B0 P1 B1 G0 GT0 G1 GT1 A0 A1) ?k1 ?k2 ?k3 N10 ?hne hsl hI hws hc0 ?hc1 ?k5 rfl ?k7 ?k8 ?_
      case k1 => k_asm
      case k2 => k_asm
      case k3 => k_asm
      case hne =>
        simp only [List.cons_append, List.nil_append]
        k_all
      case hc1 => omega
      case k5 => k_asm
      case k7 => ktr_room
      case k8 => ktr_units
      intro r9 tl9 h9 tk9 c9 t9 n9 F9 N9 htd hab9 hc90 hc94 ho9
      obtain ⟨a9, v9, u9, d9, T9, rfl, hm9, P9, B9, G9, GT9, A9, O9⟩ := ho9
      obtain ⟨e9, rfl⟩ := B9.ref
      simp only [List.cons_append, List.nil_append] at N9 hab9
      have htr : ∀ p ∈ tl9, p.1 ≠ _ := fun p hp => (hab9 _ (.head _) p hp).symm
      have hta : ∀ p ∈ tl9, p.1 ≠ _ := fun p hp => (hab9 _ (.tail _ (.head _)) p hp).symm
      have htb : ∀ p ∈ tl9, p.1 ≠ _ := fun p hp => (hab9 _ (.tail _ (.tail _ (.head _))) p hp).symm
      have hto : ∀ p ∈ own, ∀ q ∈ tl9, p.1 ≠ q.1 := fun p hp q hq => hab9 _ (.tail _ (.tail _ (.tail _ (List.mem_append_right _ hp)))) q hq
      clear hab9 N10 Nz Fz lz1
      have y9 : d9.length ≤ 1000 := Nat.le_trans G9.len (by decide)
      have hm9' : (a9, tupOf [v9, .ref e9]) ∈ tl9 ++ (base ++ own) := by rw [← List.append_assoc]; exact List.mem_append_left _ hm9
      k_steps
      rename_i oc9 F1y N1y hoc9 h9y tk9y ly h1y l1y h0y uy tky Fy Ny ay
      replace Ny := drop_news Ny (sub_cons sub_refl)
      clear F1y N1y l1y ay
      refine Stop.mk ?_
      refine LCt.Assign_ListComp_T (F₀ := by k_asm) (by rfl) (by with_unfolding_all rfl) (by with_unfolding_all rfl) (by decide) (by rfl) (by decide) (by rfl) (by rfl) (by rfl) ?_
      k_steps
      (with_reducible rename IntsAre _ (List.map _ _) => hIo)
      (with_reducible rename Above _ _ => habo)
      (rename (_, listOf _ _) ∈ _ ++ _ => hmo)
      refine Stop.mk (LCt.CompSrcT.ledger rfl (by k_asm) (by k_asm) (mem_sub hmo (by ktr_rel)) (ints_size hIo (keys_len y0)) (fun g => ?_))
      rw [List.size_toArray]
      refine comp_ints (fun k => (T9.lookup k).isSome) hIo (.inr ⟨_, mem_sub hmo (by ktr_rel), rfl, _, rfl⟩) ?_ ?_ ?_ _ 0 [] (Nat.zero_add _) .nil
      · intro k t I oI C oC D ys m₂ h tk E' Q' hC hx F2 N2 hQ
        k_steps
        exact hQ _
      · intro k t I oI C oC D ys m₂ h tk E' Q' hC hx F2 N2 hQ
        k_steps
        exact hQ _
      intro ys hIy
      unfold LCg.FinA
      intro D h tk F2 N2 o2
      dsimp only
      k_steps
      refine Stop.mk ?_
      refine LCt.ListComp_T (F₀ := by k_asm) (by with_unfolding_all rfl) (by decide) (by rfl) (by decide) (by rfl) ?_
      k_steps
      (with_reducible rename IntsAre _ (List.map _ _) => hIp)
      (with_reducible rename Above _ _ => habp)
      (rename (_, listOf _ _) ∈ _ ++ _ => hmp)
      refine Stop.mk (LCt.CompSrcT.ledger rfl (by k_asm) (by k_asm) (mem_sub hmp (by ktr_rel)) (ints_size hIp (keys_len y9)) (fun g => ?_))
      rw [List.size_toArray]
      refine comp_ints (fun k => (T0.lookup k).isSome) hIp (.inr ⟨_, mem_sub hmp (by ktr_rel), rfl, _, rfl⟩) ?_ ?_ ?_ _ 0 [] (Nat.zero_add _) .nil
      · intro k t I oI C oC D ys m₂ h tk E' Q' hC hx F2 N2 hQ
        k_steps
        exact hQ _
      · intro k t I oI C oC D ys m₂ h tk E' Q' hC hx F2 N2 hQ
        k_steps
        exact hQ _
      intro ys hIz
      unfold LCg.FinE
      intro D h tk F2 N2 o2
      k_steps
      rename_i heq9 Dn hn Fn Nn ln
      have lnc := lt_sub ln (sub_cons (sub_right (sub_cons (sub_right sub_refl))))
      have Nn2 := drop_news Nn (sub_both (sub_cons (sub_right (sub_cons (sub_right sub_refl)))))
      clear Fy Ny habo habp hmo hmp hIo hIp hIy hIz o2 heq9 Nn ln
      have hn1 := gt_ne lnc (.head _)
      have hn2 := gt_ne lnc (.tail _ (.head _))
      have hn3 := gt_ne lnc (.tail _ (.tail _ (.head _)))
      have hn4 := gt_ne lnc (.tail _ (.tail _ (.tail _ (.head _))))
      have hno := ne_all lnc (sub_cons (sub_cons (sub_cons (sub_cons (sub_right (sub_right (sub_refl (a := own))))))))
      clear lnc
      refine Stop.mk ?_
      refine' pl_set (vs := [.ref r0, .ref r1]) (ws := [.ref Dn, .ref r1]) (n := n) Fn Nn2 ?U (by decide) (by simp) (by decide) rfl ?_
      case U => k_upd
      intro hw Fw Nw
      clear Nn2 Fn
      k_steps
      exact law_end (by k_asm) (by k_asm) (by repeat' (first | exact hm2 | (refine Same.put ?_ (by decide)))) hoc9 hoz hc90 hc94 hc4 hsl hn1 hn2 hn3 hn4 htr htd hta htb hbr hbd hba hbb (RowIs.new P9 B9 G9 GT9 A9) (RowIs.old hr1 P1 B1 G1 GT1 A1) hoff hno hto
    · k_steps
      rename_i oz hoz hz5 hz4 hz3 tkz lz hz2 lz1 hz1 uz tkz' hz0 Fz Nz
      refine Stop.mk ?_
      have N10 := drop_news (news := (l0x, listOf [.ref r0, .ref r1].toArray n) :: (l3, deckO D3 c tc nc) :: ([(_, oa), (_, oz)] ++ (base ++ own))) Nz (sub_cons (sub_cons sub_refl))
      refine' TlD.use (rw := l0x) (ro := listOf [.ref r0, .ref r1].toArray n) (cells := [(_, oa), (_, oz)]) (own := own) (deed_tl (L0 := base) P1 B1 P0 B0 G1 GT1 G0 GT0 A1 A0) ?k1 ?k2 ?k3 N10 ?hne hsl hI hws hc0 ?hc1 ?k5 rfl ?k7 ?k8 ?_
      case k1 => k_asm
      case k2 => k_asm
      case k3 => k_asm
      case hne =>
        simp only [List.cons_append, List.nil_append]
        k_all
      case hc1 => omega
      case k5 => k_asm
      case k7 => ktr_room
      case k8 => ktr_units
      intro r9 tl9 h9 tk9 c9 t9 n9 F9 N9 htd hab9 hc90 hc94 ho9
      obtain ⟨a9, v9, u9, d9, T9, rfl, hm9, P9, B9, G9, GT9, A9, O9⟩ := ho9
      obtain ⟨e9, rfl⟩ := B9.ref
      simp only [List.cons_append, List.nil_append] at N9 hab9
      have htr : ∀ p ∈ tl9, p.1 ≠ _ := fun p hp => (hab9 _ (.head _) p hp).symm
      have hta : ∀ p ∈ tl9, p.1 ≠ _ := fun p hp => (hab9 _ (.tail _ (.head _)) p hp).symm
      have htb : ∀ p ∈ tl9, p.1 ≠ _ := fun p hp => (hab9 _ (.tail _ (.tail _ (.head _))) p hp).symm
      have hto : ∀ p ∈ own, ∀ q ∈ tl9, p.1 ≠ q.1 := fun p hp q hq => hab9 _ (.tail _ (.tail _ (.tail _ (List.mem_append_right _ hp)))) q hq
      clear hab9 N10 Nz Fz lz1
      have y9 : d9.length ≤ 1000 := Nat.le_trans G9.len (by decide)
      have hm9' : (a9, tupOf [v9, .ref e9]) ∈ tl9 ++ (base ++ own) := by rw [← List.append_assoc]; exact List.mem_append_left _ hm9
      k_steps
      rename_i oc9 F1y N1y hoc9 h9y tk9y ly h1y l1y h0y uy tky Fy Ny ay
      replace Ny := drop_news Ny (sub_cons sub_refl)
      clear F1y N1y l1y ay
      refine Stop.mk ?_
      refine LCt.Assign_ListComp_T (F₀ := by k_asm) (by rfl) (by with_unfolding_all rfl) (by with_unfolding_all rfl) (by decide) (by rfl) (by decide) (by rfl) (by rfl) (by rfl) ?_
      k_steps
      (with_reducible rename IntsAre _ (List.map _ _) => hIo)
      (with_reducible rename Above _ _ => habo)
      (rename (_, listOf _ _) ∈ _ ++ _ => hmo)
      refine Stop.mk (LCt.CompSrcT.ledger rfl (by k_asm) (by k_asm) (mem_sub hmo (by ktr_rel)) (ints_size hIo (keys_len y1)) (fun g => ?_))
      rw [List.size_toArray]
      refine comp_ints (fun k => (T9.lookup k).isSome) hIo (.inr ⟨_, mem_sub hmo (by ktr_rel), rfl, _, rfl⟩) ?_ ?_ ?_ _ 0 [] (Nat.zero_add _) .nil
      · intro k t I oI C oC D ys m₂ h tk E' Q' hC hx F2 N2 hQ
        k_steps
        exact hQ _
      · intro k t I oI C oC D ys m₂ h tk E' Q' hC hx F2 N2 hQ
        k_steps
        exact hQ _
      intro ys hIy
      unfold LCg.FinA
      intro D h tk F2 N2 o2
      dsimp only
      k_steps
      refine Stop.mk ?_
      refine LCt.ListComp_T (F₀ := by k_asm) (by with_unfolding_all rfl) (by decide) (by rfl) (by decide) (by rfl) ?_
      k_steps
      (with_reducible rename IntsAre _ (List.map _ _) => hIp)
      (with_reducible rename Above _ _ => habp)
      (rename (_, listOf _ _) ∈ _ ++ _ => hmp)
      refine Stop.mk (LCt.CompSrcT.ledger rfl (by k_asm) (by k_asm) (mem_sub hmp (by ktr_rel)) (ints_size hIp (keys_len y9)) (fun g => ?_))
      rw [List.size_toArray]
      refine comp_ints (fun k => (T1.lookup k).isSome) hIp (.inr ⟨_, mem_sub hmp (by ktr_rel), rfl, _, rfl⟩) ?_ ?_ ?_ _ 0 [] (Nat.zero_add _) .nil
      · intro k t I oI C oC D ys m₂ h tk E' Q' hC hx F2 N2 hQ
        k_steps
        exact hQ _
      · intro k t I oI C oC D ys m₂ h tk E' Q' hC hx F2 N2 hQ
        k_steps
        exact hQ _
      intro ys hIz
      unfold LCg.FinE
      intro D h tk F2 N2 o2
      k_steps
      rename_i heq9 Dn hn Fn Nn ln
      have lnc := lt_sub ln (sub_cons (sub_right (sub_cons (sub_right sub_refl))))
      have Nn2 := drop_news Nn (sub_both (sub_cons (sub_right (sub_cons (sub_right sub_refl)))))
      clear Fy Ny habo habp hmo hmp hIo hIp hIy hIz o2 heq9 Nn ln
      have hn1 := gt_ne lnc (.head _)
      have hn2 := gt_ne lnc (.tail _ (.head _))
      have hn3 := gt_ne lnc (.tail _ (.tail _ (.head _)))
      have hn4 := gt_ne lnc (.tail _ (.tail _ (.tail _ (.head _))))
      have hno := ne_all lnc (sub_cons (sub_cons (sub_cons (sub_cons (sub_right (sub_right (sub_refl (a := own))))))))
      clear lnc
      refine Stop.mk ?_
      refine' pl_set (vs := [.ref r0, .ref r1]) (ws := [.ref r0, .ref Dn]) (n := n) Fn Nn2 ?U (by decide) (by simp) (by decide) rfl ?_
      case U => k_upd
      intro hw Fw Nw
      clear Nn2 Fn
      k_steps
      exact law_end (by k_asm) (by k_asm) (by repeat' (first | exact hm2 | (refine Same.put ?_ (by decide)))) hoc9 hoz hc90 hc94 hc4 hsl hn1 hn2 hn3 hn4 htr htd hta htb hbr hbd hba hbb (RowIs.old hr0 P0 B0 G0 GT0 A0) (RowIs.new P9 B9 G9 GT9 A9) hoff hno hto

  case done =>
    clear hr Fa Na
    intro m₁ nx h tk hm F₁ N₁
    k_steps)
end
end
end
end
end Mine

theorem PySem.Challenge.cw_ok0041_01_holds : PySem.Challenge.rw_ok0041_01.Holds := by
  exact Mine.law_holds
