import PyProof.Rows.All
import Wide.All
import OpenK.AllK
import Wide.FinOn
import Lean
import PySem.Challenge.RW_oj0021_01
open PySem PySem.W PyProof.Rows PySem.Calls PySem.Spec
set_option Elab.async false
set_option maxRecDepth 100000
namespace Mine
section
set_option hygiene false in
local macro_rules | `(tactic| o_head (kHook $k $_ $_)) => `(tactic| (exact h0; exact $k))
set_option maxHeartbeats 8000000 in
noncomputable def hd : Params → Frag := by
  refine (fun (_ : PySem.Challenge.rw_oj0021_01.row.Holds → PySem.Challenge.rw_oj0021_01.row.Holds) (x : Params → Frag) => x) (fun h0 => ?_) ?_
  k_head
end
end Mine
namespace Mine

/-- the walk halts here -/
def Stop (P : Prop) : Prop := P
theorem stop {P : Prop} (h : Stop P) : P := h
theorem unstop {P : Prop} (h : P) : Stop P := h

/-- the surroundings of a call: the caller's block is on top of the stack -/
abbrev kA (dp un : Nat) (gd : Option (List Code)) (env : Env) (outer : List Env) : Around := { handled := none, depth := dp, frames := some (env :: outer), guards := gd, units := un }

section
variable {prog : Program} {w : World} {A : Around} {E : Value → Shared → Prop} {s : Shared} {h₀ : Heap} {L : Addr} {m : Str → Option Value} {news : List (Addr × Obj)}

theorem isList_of {h : Heap} {l : Addr} {its : Array Value} {n : Nat} (N : News h₀ L h news) (hm : (l, W.listOf its n) ∈ news) : h.IsList l its :=
  ⟨_, (N _ hm).1, rfl, n, rfl⟩

theorem ne_of_objs {h : Heap} {a b : Addr} {o o' : Obj} (N : News h₀ L h news) (ha : (a, o) ∈ news) (hb : (b, o') ∈ news) (hne : o ≠ o') : a ≠ b := by
  rintro rfl
  exact hne (Option.some.inj ((N _ ha).1.symm.trans (N _ hb).1))
theorem m_len {its : Array Value} {l : Addr} {n : Nat} {Q : Value → Shared → Prop} (N : News h₀ L s.heap news) (hm : (l, W.listOf its n) ∈ news)
    (hfit : its.size < 1000000) (h : ∀ t tk, Q (.int its.size t) { s with toks := tk }) : wpAny (model prog w) A (call (.builtin "len") [.ref l]) Q E s :=
  call_len_list (isList_of N hm) (by omega) (h _ _)

theorem m_item {value slice : PySem.Expr} {its : Array Value} {l : Addr} {n : Nat} {k : Int} {u : Tok} {v : Value} {Q : Value → Shared → Prop} (N : News h₀ L s.heap news) (hm : (l, W.listOf its n) ∈ news)
    (h0 : 0 ≤ k) (hk : k < 1000000) (hx : its[k.toNat]? = some v) (h : Q v s)
    (hs : subscripted slice false (.ref l) (.int k u) = operate [.ref l, .int k u] (getItem (.ref l) (.int k u)) := by with_unfolding_all rfl) :
    wpAny (model prog w) A (subscriptTail value slice (.ref l) (.int k u)) Q E s :=
  tail_any (isList_of N hm).typeIs slot_list_getitem.lookup (wpAny_getItem_list (isList_of N hm) h0 (by omega) hx h) hs

theorem m_eq_same {its : Array Value} {l b : Addr} {n n2 : Nat} {Q : Value → Shared → Prop} (N : News h₀ L s.heap news) (hm : (l, W.listOf its n) ∈ news) (hb : (b, W.listOf its n2) ∈ news) (hu : A.units < cLine)
    (h : Q (.bool true) s) : wpAny (model prog w) A (compareOp .Eq (.ref l) (.ref b)) Q E s :=
  PySem.SeqAt.eq_listAt (e := fun _ => true) (isList_of N hm) (isList_of N hb) rfl hu (fun _ _ _ => PySem.SeqAt.EqAt.same _) (by rw [show (List.range its.size).all (fun _ => true) = true from List.all_eq_true.mpr fun _ _ => rfl]; exact h)
theorem m_ne_same {its : Array Value} {l b : Addr} {n n2 : Nat} {Q : Value → Shared → Prop} (N : News h₀ L s.heap news) (hm : (l, W.listOf its n) ∈ news) (hb : (b, W.listOf its n2) ∈ news) (hu : A.units < cLine)
    (h : Q (.bool false) s) : wpAny (model prog w) A (compareOp .NotEq (.ref l) (.ref b)) Q E s :=
  PySem.SeqAt.RcNeAt.lists (e := fun _ => true) (isList_of N hm) (isList_of N hb) rfl hu (fun _ _ _ => PySem.SeqAt.EqAt.same _) prog w E Q (by rw [show (List.range its.size).all (fun _ => true) = true from List.all_eq_true.mpr fun _ _ => rfl]; exact h)
theorem m_ne_len {its its2 : Array Value} {l b : Addr} {n n2 : Nat} {Q : Value → Shared → Prop} (N : News h₀ L s.heap news) (hm : (l, W.listOf its n) ∈ news) (hb : (b, W.listOf its2 n2) ∈ news) (hne : its.size ≠ its2.size) (hu : A.units < cLine)
    (h : Q (.bool true) s) : wpAny (model prog w) A (compareOp .NotEq (.ref l) (.ref b)) Q E s :=
  PySem.SeqAt.RcNeAt.lists_lengths (isList_of N hm) (isList_of N hb) (by simpa using hne) hu prog w E Q h

theorem m_ints {value slice : PySem.Expr} {vs : List Value} {ns : List Int} {l : Addr} {n : Nat} {k : Int} {u : Tok} {Q : Value → Shared → Prop} (N : News h₀ L s.heap news) (hm : (l, W.listOf vs.toArray n) ∈ news)
    (I : IntsAre vs ns) (h0 : 0 ≤ k) (hk : k < 1000000) (h1 : k < ns.length) (h : ∀ t, Q (.int (ns.getD k.toNat 0) t) s)
    (hs : subscripted slice false (.ref l) (.int k u) = operate [.ref l, .int k u] (getItem (.ref l) (.int k u)) := by with_unfolding_all rfl) :
    wpAny (model prog w) A (subscriptTail value slice (.ref l) (.int k u)) Q E s :=
  item_anyK (isList_of N hm) I h0 h1 (by omega) h hs
end

section
variable {prog : Program} {w : World} {A : Around} {E : Value → Shared → Prop} {s : Shared} {env : Env} {h₀ : Heap} {x : Str} {body : List Stmt} {Q : Flow → Shared → Prop}
/-- a loop over a range by what holds between its turns -/
theorem range_inv {r : Addr} {a₀ b₀ c : Int} {t₀ u₀ v₀ : Tok} {n : Nat} {m₀ : Str → Option Value} {news : List (Addr × Obj)} (J : Nat → (Str → Option Value) → List (Addr × Obj) → Prop)
    (hh : A.handled = none) (hr : IsRange s.heap r a₀ b₀ c t₀ u₀ v₀) (hsmall : Builtin.Range.small a₀ b₀ c = true) (hn : Builtin.Range.rangeSize a₀ b₀ c = (n : Int)) (F : Fr h₀ env.locals s.heap m₀) (N : News h₀ env.locals s.heap news) (hj : J 0 m₀ news)
    (turn : ∀ I it i m₁ nx t h tk, i < n → (∀ q ∈ nx, q.1 ≠ I) → J i m₁ nx → Fr h₀ env.locals h (fun y => if y = x then some (.int (a₀ + (i : Int) * c) t) else m₁ y) → News h₀ env.locals h ((I, it) :: nx) →
      wpAny (model prog w) A (execs body env) (UnrPost h₀ env.locals { s with heap := h, toks := tk } I it (J (i + 1)) Q) E { s with heap := h, toks := tk })
    (done : ∀ m₁ nx h tk, J n m₁ nx → Fr h₀ env.locals h m₁ → News h₀ env.locals h nx → Q .next { s with heap := h, toks := tk }) :
    wpAny (model prog w) A (pyIter (.ref r)) (fun it s₂ => LoopAtV prog w A h₀ env x body Q E it s₂) E s := by
  refine krs_iter hh hr hsmall hn F N fun I hI => ?_
  have go : ∀ k i m₁ nx, i + k = n → J i m₁ nx → (∀ q ∈ nx, q.1 ≠ I) → KrsRest prog w A E h₀ env x body Q s I a₀ c n k i m₁ nx := by
    intro k
    induction k with
    | zero =>
      intro i m₁ nx hi hJ _
      have e : i = n := by omega
      subst e
      exact KrsRest.zero fun h tk F₁ N₁ => done m₁ nx h tk hJ F₁ N₁
    | succ k ih =>
      intro i m₁ nx hi hJ hoff
      refine KrsRest.succ rfl fun t h tk F₁ N₁ => ?_
      refine wpAny_mono (turn I _ i m₁ nx t h tk (by omega) hoff hJ F₁ N₁) (fun f s₂ q => ?_) fun _ _ e => e
      have fin : ∀ s₂, UnrEnd h₀ env.locals { s with heap := h, toks := tk } I (krsIt (a₀ + ((i + 1 : Nat) : Int) * c) ((n : Int) - ((i + 1 : Nat) : Int)) c) (J (i + 1)) s₂ →
          UnrEnd h₀ env.locals { s with heap := h, toks := tk } I (krsIt (a₀ + ((i + 1 : Nat) : Int) * c) ((n : Int) - ((i + 1 : Nat) : Int)) c) (KrsRest prog w A E h₀ env x body Q s I a₀ c n k (i + 1)) s₂ := by
        rintro s₂ ⟨h', tk', m', nx', e, F', N', off', hJ'⟩
        exact ⟨h', tk', m', nx', e, F', N', off', ih (i + 1) m' nx' (by omega) hJ' off'⟩
      cases f with
      | ret v => exact q
      | brk => exact q
      | next => exact fin _ q
      | cont => exact fin _ q
  exact go n 0 m₀ news (by omega) hj fun q hq => Nat.ne_of_lt (hI q hq)
end

/-- the pot: the cells' list, how many were drawn, the seed -/
def PotObj (ca : Addr) (k : Int) (o : Obj) : Prop :=
  ∃ i seed t1 t2 n, o = W.listOf #[.ref ca, .int i t1, .int seed t2] n ∧ 0 ≤ i ∧ i ≤ k ∧ 0 ≤ seed ∧ seed < 100000
theorem PotObj.mono {ca : Addr} {k k' : Int} {o : Obj} (h : PotObj ca k o) (hk : k ≤ k') : PotObj ca k' o := by
  obtain ⟨i, seed, t1, t2, n, e, h0, h1, h2⟩ := h
  exact ⟨i, seed, t1, t2, n, e, h0, Int.le_trans h1 hk, h2⟩
def PotCells (ca : Addr) (news : List (Addr × Obj)) : Prop :=
  ∃ vs ns n, (ca, W.listOf (List.toArray vs) n) ∈ news ∧ IntsAre vs ns ∧ ns.length ≤ 48
theorem PotCells.mono {ca : Addr} {news news' : List (Addr × Obj)} (h : PotCells ca news) (hs : ∀ q ∈ news, q ∈ news') : PotCells ca news' := by
  obtain ⟨vs, ns, n, hm, I, hl⟩ := h
  exact ⟨vs, ns, n, hs _ hm, I, hl⟩

/-- an object of the class Cons, and its dict -/
abbrev consDict (h1 h2 : Int) (t1 t2 : Tok) (v nx : Value) (n : Nat) : Obj := dictOf [⟨h1, .str (Str.ofString "car") t1, v⟩, ⟨h2, .str (Str.ofString "cdr") t2, nx⟩] n
def Cell (news : List (Addr × Obj)) (x v nx : Value) : Prop :=
  ∃ a d h1 h2 t1 t2 n, x = .ref a ∧ (a, instObj 68 d) ∈ news ∧ (d, consDict h1 h2 t1 t2 v nx n) ∈ news ∧ handedIn v = true ∧ handedIn nx = true
theorem Cell.mono {news news' : List (Addr × Obj)} {x v nx : Value} (h : Cell news x v nx) (hs : ∀ q ∈ news, q ∈ news') : Cell news' x v nx := by
  obtain ⟨a, d, h1, h2, t1, t2, n, e, m1, m2, q⟩ := h
  exact ⟨a, d, h1, h2, t1, t2, n, e, hs _ m1, hs _ m2, q⟩
/-- a thing of the law's menus: T, NIL or an int -/
def Atom (v : Value) : Prop := v = .ref 44 ∨ v = .ref 47 ∨ ∃ i t, v = .int i t
theorem Atom.handed {v : Value} (h : Atom v) : handedIn v = true := by
  rcases h with rfl | rfl | ⟨i, t, rfl⟩ <;> rfl
def AtomsL : List Value → Prop
  | [] => True
  | v :: r => Atom v ∧ AtomsL r
theorem AtomsL.mem : ∀ {l : List Value}, AtomsL l → ∀ v ∈ l, Atom v
  | _ :: _, ⟨h, _⟩, _, .head _ => h
  | _ :: _, ⟨_, r⟩, _, .tail _ m => r.mem _ m
theorem AtomsL.append : ∀ {l : List Value} {v : Value}, AtomsL l → Atom v → AtomsL (l ++ [v])
  | [], _, _, hv => ⟨hv, trivial⟩
  | _ :: _, _, ⟨h, r⟩, hv => ⟨h, r.append hv⟩
/-- an item of a written menu, at a place that lies in it -/
theorem m_menu {prog : Program} {w : World} {A : Around} {E : Value → Shared → Prop} {s : Shared} {h₀ : Heap} {L : Addr} {news : List (Addr × Obj)} {value slice : PySem.Expr} {vs : List Value} {l : Addr} {n : Nat} {k : Int} {u : Tok} {Q : Value → Shared → Prop}
    (N : News h₀ L s.heap news) (hm : (l, W.listOf vs.toArray n) ∈ news) (h0 : 0 ≤ k) (hk : k < 1000000) (h1 : k < vs.length) (hall : AtomsL vs) (h : ∀ v, Atom v → Q v s)
    (hs : subscripted slice false (.ref l) (.int k u) = operate [.ref l, .int k u] (getItem (.ref l) (.int k u)) := by with_unfolding_all rfl) :
    wpAny (model prog w) A (subscriptTail value slice (.ref l) (.int k u)) Q E s := by
  have hlt : k.toNat < vs.length := by omega
  refine m_item N hm h0 hk (v := vs[k.toNat]) (by simp [hlt]) (h _ (hall.mem _ (List.getElem_mem hlt))) hs
abbrev tupOf (xs : Array Value) : Obj := { cls := .type "tuple", data := .seq xs }
/-- a chain of cells with an end -/
def Chain (news : List (Addr × Obj)) : Value → List Value → Value → Prop
  | x, [], e => x = e
  | x, v :: r, e => ∃ nx, Cell news x v nx ∧ Chain news nx r e
theorem Chain.mono {news news' : List (Addr × Obj)} (hs : ∀ q ∈ news, q ∈ news') : ∀ {vs : List Value} {x e : Value}, Chain news x vs e → Chain news' x vs e
  | [], _, _, h => h
  | _ :: _, _, _, ⟨nx, hc, hr⟩ => ⟨nx, hc.mono hs, hr.mono hs⟩
end Mine
namespace Mine
local macro_rules | `(tactic| k_mem) => `(tactic| assumption)
local macro_rules | `(tactic| k_all) => `(tactic| (refine List.forall_mem_cons.mpr ⟨?_, ?_⟩ <;> k_all))
local macro_rules | `(tactic| k_all) => `(tactic| assumption)
local macro_rules | `(tactic| k_room) => `(tactic| ((try simp only [depth_under_make, depth_under_kw, depth_in1, depth_deeper, depth_caller]); (try dsimp only [kA]); (simp only [recursionLimit]); omega))
set_option maxHeartbeats 8000000 in
theorem cons_ok {w : World} {p : Program} {loose : List Str} {mean : ExcName → Option Value} {mg mb : Str → Option Value}
    {dp un : Nat} {gd : Option (List Code)} {env : Env} {outer : List Env} {A₀ : Around} {base h₀ : Heap} {L : Addr} {m : Str → Option Value} {news : List (Addr × Obj)} {s : Shared}
    {Q E : Value → Shared → Prop} {v nx : Value}
    (B : Below A₀ base outer h₀) (F : Fr h₀ L s.heap m) (X : (Mine.hd.heap_1 w.params).In h₀) (T : Top p loose mean mg mb h₀) (hf : env.frame = some L) (hke : env.scope.kind = .function)
    (N : News h₀ L s.heap news) (hdp : dp < 500)
    (ret : ∀ x d h1 h2 t1 t2 n h' tk', (∀ q ∈ news, q.1 < d) → d < x → Fr h₀ L h' m → News h₀ L h' ((x, instObj 68 d) :: (d, consDict h1 h2 t1 t2 v nx n) :: news) → Q (.ref x) { s with heap := h', toks := tk' }) :
    wpAny (model PySem.Challenge.rw_oj0021_01.row.prog w) (kA dp un gd env outer) (call (.ref 68) [v, nx]) Q E s := by
  revert X; k_fill; intro X
  k_dflt (refine' call_cls ?k1 ?k2 ?k3 ?k4 ?k5 ?k6 ?_; (case k1 => exact F); (case k2 => exact X); (case k3 => exact N); (case k4 => k_is); (case k5 => k_is); (case k6 => k_is))
  intro x d h1 F1 N1 hlt hdx
  k_dflt (refine' code_def (binds := [(Str.ofString "self", .ref x), (Str.ofString "car", v), (Str.ofString "cdr", nx)]) B F1 X N1 T ?kA ?kF ?kK ?k6 ?k7 ?k8 ?k9 ?kB ?_ ?c2 ?c3 ?c4 ?c5; (case kA => exact rfl); (case kF => exact hf); (case kK => exact hke); (case k6 => k_is); (case k7 => k_is); (case k8 => k_room); (case k9 => exact BindsTo.of_eq rfl); (case c5 => decide); (case kB => exact locs rfl); (case c2 => exact rfl); (case c3 => exact rfl); (case c4 => exact rfl))
  intro g' L' h' FG' F' N' B' X' T'
  have hne : ∀ q ∈ news, q.1 ≠ d := fun q hq => Nat.ne_of_lt (hlt q hq)
  have hxd : x ≠ d := Nat.ne_of_gt hdx
  try dsimp only
  try k_fold
  k_steps
  exact ret _ _ _ _ _ _ _ _ _ hlt hdx (by assumption) (by assumption)
end Mine
namespace Mine
local macro_rules | `(tactic| k_mem) => `(tactic| assumption)
local macro_rules | `(tactic| k_all) => `(tactic| assumption)
local macro_rules | `(tactic| walk_at "call builtin:len") => `(tactic| (k_here; (with_reducible show wpAny _ _ (call (Value.builtin "len") [Value.ref _]) _ _ _); k_dflt (refine' m_len ?N ?m ?f ?_; (case N => k_asm); (case m => k_mem); (case f => (simp only [Array.size_push, List.size_toArray, List.length_map, List.length_range, List.length_append, List.length_cons, List.length_nil]; omega)); intro tL tkL)))
local macro_rules | `(tactic| walk_at "eval Name") => `(tactic| (k_here; k_dflt (refine' ld ?k1 ?k2 ?_; (case k1 => k_asm); (case k2 => first | exact rfl | assumption); k_whole)))
local macro_rules | `(tactic| walk_at "call builtin:list.append") => `(tactic| (k_here; (with_reducible show wpAny _ _ (call (Value.builtin _) [Value.ref _, _]) _ _ _); k_dflt (refine' append_K ?k1 ?k2 ?k3 ?_ ?z; (case k1 => k_asm); (case k2 => k_asm); (case k3 => k_upd); (case z => (simp only [List.size_toArray, List.length_map, List.length_range, sizeLine_eq]; omega)); k_whole); intro h' F' N'; (try simp only [List.push_toArray] at N'); (try k_sweep)))
local macro_rules | `(tactic| k_handed) => `(tactic| assumption)
local macro_rules | `(tactic| walk_at "exec While") => `(tactic| (k_here; (with_reducible show wpAny _ _ (exec (Stmt.While _ _ _ _) _) _ _ _); refine stop ?_))
local macro_rules | `(tactic| walk_at "compareOp Is") => `(tactic| (k_here; (with_reducible show wpAny _ _ (compareOp CmpOp.Is _ _) _ _ _); refine stop ?_))
set_option maxHeartbeats 8000000 in
theorem split_ok {w : World} {p : Program} {loose : List Str} {mean : ExcName → Option Value} {mg mb : Str → Option Value}
    {dp un : Nat} {gd : Option (List Code)} {env : Env} {outer : List Env} {A₀ : Around} {base h₀ : Heap} {L : Addr} {m : Str → Option Value} {news : List (Addr × Obj)} {s : Shared}
    {Q E : Value → Shared → Prop} {P V : Nat → Value} {K : Nat} {rv : Value}
    (B : Below A₀ base outer h₀) (F : Fr h₀ L s.heap m) (X : (Mine.hd.heap_1 w.params).In h₀) (T : Top p loose mean mg mb h₀) (hf : env.frame = some L) (hke : env.scope.kind = .function)
    (N : News h₀ L s.heap news) (hK : K ≤ 100) (hc : ∀ k, k < K → Cell news (P k) (V k) (P (k + 1))) (hn : ∀ j, 0 < j → 2 * j < K → P (2 * j) ≠ P j)
    (he : (rv = P K ∧ Atom (P K)) ∨ ∃ j, 0 < j ∧ K = 2 * j ∧ P K = P j ∧ rv = .none) (hdp : dp < 490)
    (ret : ∀ ra ta c h' tk', (∀ q ∈ news, q.1 < ta) → ta < ra → Fr h₀ L h' m → News h₀ L h' ((ra, tupOf #[.ref ta, rv]) :: (ta, W.listOf ((List.range K).map V).toArray c) :: news) → Q (.ref ra) { s with heap := h', toks := tk' }) :
    wpAny (model PySem.Challenge.rw_oj0021_01.row.prog w) (kA dp un gd env outer) (call (.ref 207) [P 0]) Q E s := by
  revert X; k_fill; intro X
  refine wpAny_call ?_
  k_dflt (refine' code_def (binds := [(Str.ofString "datum", P 0)]) B F X N T ?kA ?kF ?kK ?k6 ?k7 ?k8 ?k9 ?kB ?_ ?c2 ?c3 ?c4 ?c5; (case kA => exact rfl); (case kF => exact hf); (case kK => exact hke); (case k6 => k_is); (case k7 => k_is); (case k8 => (simp only [recursionLimit]; omega)); (case k9 => exact BindsTo.of_eq rfl); (case c5 => decide); (case kB => exact locs rfl); (case c2 => exact rfl); (case c3 => exact rfl); (case c4 => exact rfl))
  intro g' L' h' FG' F' N' B' X' T'
  try dsimp only
  try k_fold
  k_steps
  refine unstop ?_
  first
    | (rename_i tk0 ta hh3 hlt hh2 hh1 hh0 F1 N1; have : News g' L' hh0 ((ta, W.listOf #[] 0) :: news) := N1)
    | (rename_i ta hh3 hlt hh2 hh1 hh0 F1 N1; have : News g' L' hh0 ((ta, W.listOf #[] 0) :: news) := N1)
  have hsep : ∀ q ∈ news, q.1 ≠ ta := fun q hq => Nat.ne_of_lt (hlt q hq)
  refine While_inv2 (fun n m1 nx => ∃ k c, k + n = K ∧ (k = K → rv = P K ∧ Atom (P K)) ∧ m1 (Str.ofString "things") = some (.ref ta) ∧ m1 (Str.ofString "at") = some (P k) ∧ m1 (Str.ofString "slow") = some (P (k / 2)) ∧
      nx = (ta, W.listOf ((List.range k).map V).toArray c) :: news) (n₀ := K) F1 N1 ?_ ?_
  · refine ⟨0, 0, by omega, fun e => ?_, rfl, rfl, rfl, rfl⟩
    rcases he with h | ⟨j, hj, hj2, _⟩
    · exact h
    · omega
  · rintro n m1 nx h tk F2 N2 ⟨k, c, hkn, hkK, hth, hat, hsl, rfl⟩
    by_cases hlast : k = K
    · subst hlast
      obtain ⟨hrv, hA⟩ := hkK rfl
      rw [hrv] at ret
      rcases hA with e9 | e9 | ⟨i9, t9, e9⟩ <;> rw [e9] at hat ret
      all_goals k_steps
      all_goals exact ret _ _ _ _ _ hlt (And.left (b := AllLt _ _) (by assumption)) (by assumption) (by assumption)
    · have hkK' : k < K := by omega
      obtain ⟨x, d, a1, a2, t1, t2, dn, ex, mx, md, hv1, hv2⟩ := hc k hkK'
      obtain ⟨x2, d2, b1, b2, u1, u2, dn2, ex2, mx2, md2, hw1, hw2⟩ := hc (k / 2) (by omega)
      rw [ex] at hat
      rw [ex2] at hsl
      k_steps
      · refine unstop ?_
        rename News g' L' _ _ => N3
        rename Fr g' L' _ _ => F3
        rename _ = (0 : Int) => hmod
        have hev : (k + 1) % 2 = 0 := by
          simp only [Array.size_push, List.size_toArray, List.length_map, List.length_range, List.length_append, List.length_cons, List.length_nil] at hmod
          rw [Int.fmod_eq_emod_of_nonneg _ (by decide)] at hmod
          omega
        have hlist : ((List.range k).map V ++ [V k]).toArray = ((List.range (k + 1)).map V).toArray := by simp [List.range_succ]
        rw [hlist] at N3
        by_cases hk1 : k + 1 < K
        · have hne := hn (k / 2 + 1) (by omega) (by omega)
          rw [show 2 * (k / 2 + 1) = k + 1 by omega] at hne
          obtain ⟨x3, d3, c1, c2, v1, v2, dn3, ex3, mx3, md3, hy1, hy2⟩ := hc (k + 1) hk1
          obtain ⟨x4, d4, c3, c4, v3, v4, dn4, ex4, mx4, md4, hz1, hz2⟩ := hc (k / 2 + 1) (by omega)
          have e3 : compareOp .Is (P (k + 1)) (P (k / 2 + 1)) = compareOp .Is (.ref x3) (.ref x4) := by rw [ex3, ex4]
          rw [ex3, ex4] at hne
          rw [e3]
          refine kto_is (N3 _ (.tail _ mx3)).1 (N3 _ (.tail _ mx4)).1 (fun e => hne (by rw [e])) (by simp) ?_
          k_steps
          refine ⟨_, _, _, _, K - (k + 1), rfl, F3, N3, by omega, k + 1, c + 1, by omega, fun e => by omega, hth, rfl, ?_, rfl⟩
          show some (P (k / 2 + 1)) = some (P ((k + 1) / 2))
          rw [show (k + 1) / 2 = k / 2 + 1 by omega]
        · have hkK1 : k + 1 = K := by omega
          rcases he with ⟨hrv, hA⟩ | ⟨j, hj0, hj2, hjP, hrv⟩
          · obtain ⟨x4, d4, c3, c4, v3, v4, dn4, ex4, mx4, md4, hz1, hz2⟩ := hc (k / 2 + 1) (by omega)
            rcases hA with e9 | e9 | ⟨i9, t9, e9⟩
            · have e3 : compareOp .Is (P (k + 1)) (P (k / 2 + 1)) = compareOp .Is (.ref 44) (.ref x4) := by rw [hkK1, e9, ex4]
              rw [e3]
              k_dflt (refine' kto_is ?a (N3 _ (.tail _ mx4)).1 ?b ?c ?_; (case a => kto_obj); (case b => kto_ne); (case c => kto_not))
              k_steps
              refine ⟨_, _, _, _, K - (k + 1), rfl, F3, N3, by omega, k + 1, c + 1, by omega, fun e => ⟨hrv, .inl e9⟩, hth, rfl, ?_, rfl⟩
              show some (P (k / 2 + 1)) = some (P ((k + 1) / 2))
              rw [show (k + 1) / 2 = k / 2 + 1 by omega]
            · have e3 : compareOp .Is (P (k + 1)) (P (k / 2 + 1)) = compareOp .Is (.ref 47) (.ref x4) := by rw [hkK1, e9, ex4]
              rw [e3]
              k_dflt (refine' kto_is ?a (N3 _ (.tail _ mx4)).1 ?b ?c ?_; (case a => kto_obj); (case b => kto_ne); (case c => kto_not))
              k_steps
              refine ⟨_, _, _, _, K - (k + 1), rfl, F3, N3, by omega, k + 1, c + 1, by omega, fun e => ⟨hrv, .inr (.inl e9)⟩, hth, rfl, ?_, rfl⟩
              show some (P (k / 2 + 1)) = some (P ((k + 1) / 2))
              rw [show (k + 1) / 2 = k / 2 + 1 by omega]
            · have e3 : compareOp .Is (P (k + 1)) (P (k / 2 + 1)) = compareOp .Is (.int i9 t9) (.ref x4) := by rw [hkK1, e9, ex4]
              rw [e3]
              refine wpAny_is_other rfl (fun e => nomatch e) ?_
              k_steps
              refine ⟨_, _, _, _, K - (k + 1), rfl, F3, N3, by omega, k + 1, c + 1, by omega, fun e => ⟨hrv, .inr (.inr ⟨i9, t9, e9⟩)⟩, hth, rfl, ?_, rfl⟩
              show some (P (k / 2 + 1)) = some (P ((k + 1) / 2))
              rw [show (k + 1) / 2 = k / 2 + 1 by omega]
          · obtain ⟨x4, d4, c3, c4, v3, v4, dn4, ex4, mx4, md4, hz1, hz2⟩ := hc (k / 2 + 1) (by omega)
            have ej : j = k / 2 + 1 := by omega
            have e3 : compareOp .Is (P (k + 1)) (P (k / 2 + 1)) = compareOp .Is (.ref x4) (.ref x4) := by rw [hkK1, hjP, ej, ex4]
            rw [e3]
            refine wpAny_is_ref_self ?_
            rw [hrv, ← hkK1] at ret
            k_steps
            dsimp only [WhileStep2]
            k_steps
            exact ret _ _ _ _ _ hlt (And.left (b := AllLt _ _) (by assumption)) (by assumption) (by assumption)
      · rename ¬ _ = (0 : Int) => hmod
        rename News g' L' _ _ => N3
        rename Fr g' L' _ _ => F3
        have hev : (k + 1) % 2 = 1 := by
          simp only [Array.size_push, List.size_toArray, List.length_map, List.length_range, List.length_append, List.length_cons, List.length_nil] at hmod
          rw [Int.fmod_eq_emod_of_nonneg _ (by decide)] at hmod
          omega
        have hlist : ((List.range k).map V ++ [V k]).toArray = ((List.range (k + 1)).map V).toArray := by simp [List.range_succ]
        rw [hlist] at N3
        refine ⟨_, _, _, _, K - (k + 1), rfl, F3, N3, by omega, k + 1, c + 1, by omega, fun e => ?_, hth, rfl, ?_, rfl⟩
        · rcases he with h | ⟨j, hj0, hj2, hjP, hrv⟩
          · exact h
          · omega
        · show m1 (Str.ofString "slow") = some (P ((k + 1) / 2))
          rw [show (k + 1) / 2 = k / 2 by omega, hsl, ex2]
end Mine
namespace Mine
local macro_rules | `(tactic| k_mem) => `(tactic| assumption)
local macro_rules | `(tactic| k_all) => `(tactic| assumption)
local macro_rules | `(tactic| walk_at "eval Name") => `(tactic| (k_here; k_dflt (refine' ld ?k1 ?k2 ?_; (case k1 => k_asm); (case k2 => first | exact rfl | assumption); k_whole)))
set_option hygiene false in
local macro_rules | `(tactic| walk_at "call ref") => `(tactic| (k_here; (with_reducible show wpAny _ _ (call (Value.ref 207) _ _) _ _ _); k_dflt (refine' split_ok ?B ?F ?X ?T ?a ?b ?N ?hk ?hc ?hn ?he ?c ?_; (case B => assumption); (case F => k_asm); (case X => assumption); (case T => assumption); (case a => rfl); (case b => rfl); (case N => k_asm); (case hk => assumption); (case hc => assumption); (case hn => assumption); (case he => assumption); (case c => (dsimp only [kA, Around.deeper]; omega))); intro ra9 ta9 c9 h9 tk9 hlt9 hta9 F9 N9))
local macro_rules | `(tactic| walk_at "compareOp Is") => `(tactic| (k_here; (with_reducible show wpAny _ _ (compareOp CmpOp.Is _ _) _ _ _); refine stop ?_))
set_option maxHeartbeats 8000000 in
theorem items_ok {w : World} {p : Program} {loose : List Str} {mean : ExcName → Option Value} {mg mb : Str → Option Value}
    {dp un : Nat} {gd : Option (List Code)} {env : Env} {outer : List Env} {A₀ : Around} {base h₀ : Heap} {L : Addr} {m : Str → Option Value} {news : List (Addr × Obj)} {s : Shared}
    {Q E : Value → Shared → Prop} {P V : Nat → Value} {K : Nat} {rv : Value}
    (B : Below A₀ base outer h₀) (F : Fr h₀ L s.heap m) (X : (Mine.hd.heap_1 w.params).In h₀) (T : Top p loose mean mg mb h₀) (hf : env.frame = some L) (hke : env.scope.kind = .function)
    (N : News h₀ L s.heap news) (hK : K ≤ 100) (hc : ∀ k, k < K → Cell news (P k) (V k) (P (k + 1))) (hn : ∀ j, 0 < j → 2 * j < K → P (2 * j) ≠ P j)
    (he : (rv = P K ∧ Atom (P K)) ∨ ∃ j, 0 < j ∧ K = 2 * j ∧ P K = P j ∧ rv = .none) (hdp : dp < 480)
    (ret : ∀ r ta c h' tk', (∀ q ∈ news, q.1 < ta) → ((rv = .ref 44 ∧ r = .ref ta) ∨ (rv ≠ .ref 44 ∧ r = .none)) → Fr h₀ L h' m → News h₀ L h' ((ta, W.listOf ((List.range K).map V).toArray c) :: news) → Q r { s with heap := h', toks := tk' }) :
    wpAny (model PySem.Challenge.rw_oj0021_01.row.prog w) (kA dp un gd env outer) (call (.ref 214) [P 0]) Q E s := by
  revert X; k_fill; intro X
  refine wpAny_call ?_
  k_dflt (refine' code_def (binds := [(Str.ofString "datum", P 0)]) B F X N T ?kA ?kF ?kK ?k6 ?k7 ?k8 ?k9 ?kB ?_ ?c2 ?c3 ?c4 ?c5; (case kA => exact rfl); (case kF => exact hf); (case kK => exact hke); (case k6 => k_is); (case k7 => k_is); (case k8 => (simp only [recursionLimit]; omega)); (case k9 => exact BindsTo.of_eq rfl); (case c5 => decide); (case kB => exact locs rfl); (case c2 => exact rfl); (case c3 => exact rfl); (case c4 => exact rfl))
  intro g' L' h' FG' F' N' B' X' T'
  try dsimp only
  try k_fold
  k_steps
  refine unstop ?_
  have hr4 : rv = .ref 44 ∨ rv = .ref 47 ∨ (∃ i t, rv = .int i t) ∨ rv = .none := by
    rcases he with ⟨e, h | h | ⟨i, t, h⟩⟩ | ⟨_, _, _, _, e⟩
    · exact .inl (e.trans h)
    · exact .inr (.inl (e.trans h))
    · exact .inr (.inr (.inl ⟨i, t, e.trans h⟩))
    · exact .inr (.inr (.inr e))
  rcases hr4 with e | e | ⟨i9, t9, e⟩ | e
  · rw [show compareOp .Is rv (.ref 44) = compareOp .Is (.ref 44) (.ref 44) by rw [e]]
    refine wpAny_is_ref_self ?_
    k_steps
    rename News h₀ L _ _ => N9
    exact ret _ _ _ _ _ hlt9 (.inl ⟨e, rfl⟩) (by assumption) fun q hq => N9 q (.tail _ hq)
  · rw [show compareOp .Is rv (.ref 44) = compareOp .Is (.ref 47) (.ref 44) by rw [e]]
    k_dflt (refine' kto_is ?a ?a2 ?b ?c ?_; (case a => kto_obj); (case a2 => kto_obj); (case b => decide); (case c => kto_not))
    k_steps
    rename News h₀ L _ _ => N9
    exact ret _ _ _ _ _ hlt9 (.inr ⟨by rw [e]; decide, rfl⟩) (by assumption) fun q hq => N9 q (.tail _ hq)
  · rw [show compareOp .Is rv (.ref 44) = compareOp .Is (.int i9 t9) (.ref 44) by rw [e]]
    refine wpAny_is_other rfl (fun e => nomatch e) ?_
    k_steps
    rename News h₀ L _ _ => N9
    exact ret _ _ _ _ _ hlt9 (.inr ⟨by rw [e]; (intro z; cases z), rfl⟩) (by assumption) fun q hq => N9 q (.tail _ hq)
  · rw [show compareOp .Is rv (.ref 44) = compareOp .Is .none (.ref 44) by rw [e]]
    refine wpAny_is_other rfl (fun e => nomatch e) ?_
    k_steps
    rename News h₀ L _ _ => N9
    exact ret _ _ _ _ _ hlt9 (.inr ⟨by rw [e]; (intro z; cases z), rfl⟩) (by assumption) fun q hq => N9 q (.tail _ hq)
end Mine
namespace Mine
local macro_rules | `(tactic| k_all) => `(tactic| assumption)
local macro_rules | `(tactic| k_mem) => `(tactic| assumption)
local macro_rules | `(tactic| walk_at "call builtin:len") => `(tactic| (k_here; (with_reducible show wpAny _ _ (call (Value.builtin "len") [Value.ref _]) _ _ _); k_dflt (refine' m_len ?N ?m ?f ?_; (case N => k_asm); (case m => k_mem); (case f => (simp only [List.size_toArray]; omega)); intro tL tkL)))
local macro_rules | `(tactic| walk_at "subscriptTail") => `(tactic| (k_here; (with_reducible show wpAny _ _ (subscriptTail _ _ (Value.ref _) (Value.int _ _)) _ _ _); k_dflt (refine' m_ints ?N ?m ?I ?a ?b ?c ?_; (case N => k_asm); (case m => k_mem); (case I => assumption); (case a => omega); (case b => omega); (case c => omega)); intro tL))
set_option maxHeartbeats 8000000 in
theorem dip_ok {w : World} {p : Program} {loose : List Str} {mean : ExcName → Option Value} {mg mb : Str → Option Value}
    {dp un : Nat} {gd : Option (List Code)} {env : Env} {outer : List Env} {A₀ : Around} {base h₀ : Heap} {L : Addr} {m : Str → Option Value} {news : List (Addr × Obj)} {s : Shared}
    {Q E : Value → Shared → Prop} {pa ca : Addr} {o : Obj} {k many : Int} {t3 : Tok}
    (B : Below A₀ base outer h₀) (F : Fr h₀ L s.heap m) (X : (Mine.hd.heap_1 w.params).In h₀) (T : Top p loose mean mg mb h₀) (hf : env.frame = some L) (hke : env.scope.kind = .function)
    (N : News h₀ L s.heap ((pa, o) :: news)) (P : PotObj ca k o) (C : PotCells ca news) (hsep : ∀ q ∈ news, q.1 ≠ pa)
    (hk1 : k < 1000) (hm0 : 0 < many) (hm1 : many < 100) (hdp : dp < 500)
    (ret : ∀ r o' t' h' tk', 0 ≤ r → r < many → PotObj ca (k + 1) o' → Fr h₀ L h' m → News h₀ L h' ((pa, o') :: news) → Q (.int r t') { s with heap := h', toks := tk' }) :
    wpAny (model PySem.Challenge.rw_oj0021_01.row.prog w) (kA dp un gd env outer) (call (.ref 278) [.ref pa, .int many t3]) Q E s := by
  obtain ⟨i, seed, t1, t2, n1, rfl, hi0, hi1, hs0, hs1⟩ := P
  obtain ⟨vs, ns, n2, hc, I, hlen⟩ := C
  have hvl := I.length
  revert X; k_fill; intro X
  refine wpAny_call ?_
  k_dflt (refine' code_def (binds := [(Str.ofString "pot", .ref pa), (Str.ofString "many", .int many t3)]) B F X N T ?kA ?kF ?kK ?k6 ?k7 ?k8 ?k9 ?kB ?_ ?c2 ?c3 ?c4 ?c5; (case kA => exact rfl); (case kF => exact hf); (case kK => exact hke); (case k6 => k_is); (case k7 => k_is); (case k8 => (simp only [recursionLimit]; omega)); (case k9 => exact BindsTo.of_eq rfl); (case c5 => decide); (case kB => exact locs rfl); (case c2 => exact rfl); (case c3 => exact rfl); (case c4 => exact rfl))
  intro g' L' h' FG' F' N' B' X' T'
  try dsimp only
  try k_fold
  k_steps
  all_goals (refine ret _ _ _ _ _ ?_ ?_ ⟨_, _, _, _, _, rfl, ?_, ?_, ?_, ?_⟩ (by assumption) (by assumption))
  all_goals first
    | exact Int.fmod_nonneg_of_pos _ hm0
    | exact Int.fmod_lt_of_pos _ hm0
    | omega
    | exact Int.fmod_nonneg_of_pos _ (by decide)
    | exact Int.lt_trans (Int.fmod_lt_of_pos _ (by decide)) (by decide)
/-- the same, the pot standing anywhere in the ledger -/
theorem dip_okU {w : World} {p : Program} {loose : List Str} {mean : ExcName → Option Value} {mg mb : Str → Option Value}
    {dp un : Nat} {gd : Option (List Code)} {env : Env} {outer : List Env} {A₀ : Around} {base h₀ : Heap} {L : Addr} {m : Str → Option Value} {led newsC : List (Addr × Obj)} {u : Obj → List (Addr × Obj)} {s : Shared}
    {Q E : Value → Shared → Prop} {pa ca : Addr} {o : Obj} {k many : Int} {t3 : Tok}
    (B : Below A₀ base outer h₀) (F : Fr h₀ L s.heap m) (X : (Mine.hd.heap_1 w.params).In h₀) (T : Top p loose mean mg mb h₀) (hf : env.frame = some L) (hke : env.scope.kind = .function)
    (N : News h₀ L s.heap led) (U : UpdF pa o led u) (P : PotObj ca k o) (C : PotCells ca newsC) (hC : ∀ q ∈ newsC, q ∈ led) (hsepC : ∀ q ∈ newsC, q.1 ≠ pa)
    (hk1 : k < 1000) (hm0 : 0 < many) (hm1 : many < 100) (hdp : dp < 500)
    (ret : ∀ r o' t' h' tk', 0 ≤ r → r < many → PotObj ca (k + 1) o' → Fr h₀ L h' m → News h₀ L h' (u o') → Q (.int r t') { s with heap := h', toks := tk' }) :
    wpAny (model PySem.Challenge.rw_oj0021_01.row.prog w) (kA dp un gd env outer) (call (.ref 278) [.ref pa, .int many t3]) Q E s := by
  obtain ⟨pre, post, rfl, hu, h1, h2⟩ := U.split
  have mv : ∀ {x : Obj} {q : Addr × Obj}, q ∈ (pa, x) :: (pre ++ post) → q ∈ pre ++ (pa, x) :: post := by
    intro x q hq
    simp only [List.mem_cons, List.mem_append] at hq ⊢
    rcases hq with h | h | h
    · exact .inr (.inl h)
    · exact .inl h
    · exact .inr (.inr h)
  have mv' : ∀ {x : Obj} {q : Addr × Obj}, q ∈ pre ++ (pa, x) :: post → q ∈ (pa, x) :: (pre ++ post) := by
    intro x q hq
    simp only [List.mem_cons, List.mem_append] at hq ⊢
    rcases hq with h | h | h
    · exact .inr (.inl h)
    · exact .inl h
    · exact .inr (.inr h)
  have hsep : ∀ q ∈ pre ++ post, q.1 ≠ pa := fun q hq => (List.mem_append.mp hq).elim (h1 q) (h2 q)
  refine dip_ok B F X T hf hke (fun q hq => N q (mv hq)) P (C.mono fun q hq => ?_) hsep hk1 hm0 hm1 hdp fun r o' t' h' tk' a b c d e => ret r o' t' h' tk' a b c d ?_
  · rcases List.mem_cons.mp (mv' (hC q hq)) with h | h
    · exact absurd (by rw [h]) (hsepC q hq)
    · exact h
  · rw [hu]
    exact fun q hq => e q (mv' hq)
end Mine
namespace Mine
local macro_rules | `(tactic| k_mem) => `(tactic| assumption)
local macro_rules | `(tactic| walk_at "call builtin:len") => `(tactic| (k_here; (with_reducible show wpAny _ _ (call (Value.builtin "len") [Value.ref _]) _ _ _); k_dflt (refine' m_len ?N ?m ?f ?_; (case N => k_asm); (case m => k_mem); (case f => (simp only [List.size_toArray]; omega)); intro tL tkL)))
local macro_rules | `(tactic| walk_at "subscriptTail") => `(tactic| (k_here; (with_reducible show wpAny _ _ (subscriptTail _ _ (Value.ref _) (Value.int _ _)) _ _ _); k_dflt (refine' m_item ?N ?m ?a ?b ?x ?_; (case N => k_asm); (case m => k_mem); (case a => (simp only [List.size_toArray]; omega)); (case b => (simp only [List.size_toArray]; omega)); (case x => assumption))))
local macro_rules | `(tactic| walk_at "eval Name") => `(tactic| (k_here; k_dflt (refine' ld ?k1 ?k2 ?_; (case k1 => k_asm); (case k2 => first | exact rfl | assumption); k_whole)))
set_option hygiene false in
local macro_rules | `(tactic| walk_at "call ref") => `(tactic| (k_here; (with_reducible show wpAny _ _ (call (Value.ref 68) _ _) _ _ _); k_dflt (refine' cons_ok ?B ?F ?X ?T ?a ?b ?N ?c ?_; (case B => assumption); (case F => k_asm); (case X => assumption); (case T => assumption); (case a => rfl); (case b => rfl); (case N => k_asm); (case c => (dsimp only [kA, Around.deeper]; omega))); intro x9 d9 hA9 hB9 tA9 tB9 n9 h9 tk9 hlt9 hdx9 F9 N9))
local macro_rules | `(tactic| walk_at "pyIter ref") => `(tactic| (k_here; (with_reducible show wpAny _ _ (pyIter (Value.ref _)) (fun it s₂ => LoopAtV _ _ _ _ _ _ _ _ _ it s₂) _ _); refine stop ?_))
set_option maxHeartbeats 8000000 in
theorem listof_ok {w : World} {p : Program} {loose : List Str} {mean : ExcName → Option Value} {mg mb : Str → Option Value}
    {dp un : Nat} {gd : Option (List Code)} {env : Env} {outer : List Env} {A₀ : Around} {base h₀ : Heap} {L : Addr} {m : Str → Option Value} {news : List (Addr × Obj)} {s : Shared}
    {Q E : Value → Shared → Prop} {la : Addr} {vs : List Value} {n : Nat} {tv : Value}
    (B : Below A₀ base outer h₀) (F : Fr h₀ L s.heap m) (X : (Mine.hd.heap_1 w.params).In h₀) (T : Top p loose mean mg mb h₀) (hf : env.frame = some L) (hke : env.scope.kind = .function)
    (N : News h₀ L s.heap news) (hl : (la, W.listOf vs.toArray n) ∈ news) (hlen : vs.length ≤ 100) (hav : ∀ v ∈ vs, Atom v) (hat : Atom tv) (hdp : dp < 490)
    (ret : ∀ r tl h' tk', (∀ q ∈ tl, ∀ b ∈ news, b.1 < q.1) → Chain tl r vs tv → Fr h₀ L h' m → News h₀ L h' (tl ++ news) → Q r { s with heap := h', toks := tk' }) :
    wpAny (model PySem.Challenge.rw_oj0021_01.row.prog w) (kA dp un gd env outer) (call (.ref 200) [.ref la, tv]) Q E s := by
  revert X; k_fill; intro X
  refine wpAny_call ?_
  k_dflt (refine' code_def (binds := [(Str.ofString "things", .ref la), (Str.ofString "tail", tv)]) B F X N T ?kA ?kF ?kK ?k6 ?k7 ?k8 ?k9 ?kB ?_ ?c2 ?c3 ?c4 ?c5; (case kA => exact rfl); (case kF => exact hf); (case kK => exact hke); (case k6 => k_is); (case k7 => k_is); (case k8 => (simp only [recursionLimit]; omega)); (case k9 => exact binds_K (by k_in) rfl (by k_is) rfl rfl rfl); (case c5 => decide); (case kB => exact locs rfl); (case c2 => exact rfl); (case c3 => exact rfl); (case c4 => exact rfl))
  intro g' L' h' FG' F' N' B' X' T'
  try dsimp only
  try k_fold
  k_steps
  refine unstop ?_
  rename IsRange _ _ _ _ _ _ _ _ => R1
  rename Fr _ _ _ _ => F1
  rename News _ _ _ _ => N1
  refine range_inv (fun i m1 nx => ∃ fv tl, m1 (Str.ofString "found") = some fv ∧ m1 (Str.ofString "things") = some (.ref la) ∧ nx = tl ++ news ∧ Chain tl fv (vs.drop (vs.length - i)) tv ∧ handedIn fv = true ∧ (∀ q ∈ tl, ∀ b ∈ news, b.1 < q.1))
    rfl R1 (small_down (by simp only [List.size_toArray]; omega) (by simp only [List.size_toArray]; omega) (by omega) (by omega)) ((rangeSize_downNat _ _).trans (congrArg Nat.cast (show _ = vs.length by simp only [List.size_toArray]; omega))) F1 N1 ?_ ?_ ?_
  · exact ⟨tv, [], rfl, rfl, rfl, by simp [Chain], hat.handed, fun q hq => nomatch hq⟩
  · rintro I it i m1 nx t h tk hi hoff ⟨fv, tl, hfv, hth, rfl, hch, hfh, hlt⟩ F2 N2
    have hl2 : (la, W.listOf vs.toArray n) ∈ tl ++ news := List.mem_append_right _ hl
    obtain ⟨v, hx⟩ : ∃ v, vs.toArray[((vs.toArray.size : Int) - 1 + (i : Int) * (-1)).toNat]? = some v := by
      refine ⟨vs[((vs.toArray.size : Int) - 1 + (i : Int) * (-1)).toNat]'(by simp only [List.size_toArray]; omega), ?_⟩
      simp
    have hvh : handedIn v = true := (hav v (by have := List.mem_of_getElem? (l := vs) (i := _) (by simpa using hx); exact this)).handed
    k_steps
    rename Fr g' L' _ _ => Fe
    rename News g' L' _ _ => Ne
    have hId : I < d9 := hlt9 (I, it) (.head _)
    have hlt10 : ∀ q ∈ tl ++ news, q.1 < d9 := fun q hq => hlt9 q (.tail _ hq)
    refine UnrEnd.intro Fe Ne ((x9, instObj 68 d9) :: (d9, consDict hA9 hB9 tA9 tB9 v fv n9) :: (tl ++ news)) ?_ ?_ ?_
    · intro q hq
      simp only [List.mem_cons] at hq ⊢
      rcases hq with h | h | h | h
      · exact .inr (.inr (.inl h))
      · exact .inl h
      · exact .inr (.inl h)
      · exact .inr (.inr (.inr h))
    · intro q hq
      simp only [List.mem_cons] at hq
      rcases hq with rfl | rfl | h
      · exact Nat.ne_of_gt (Nat.lt_trans hId hdx9)
      · exact Nat.ne_of_gt hId
      · exact hoff q h
    · refine ⟨.ref x9, (x9, instObj 68 d9) :: (d9, consDict hA9 hB9 tA9 tB9 v fv n9) :: tl, rfl, hth, rfl, ?_, rfl, ?_⟩
      · have e : vs.drop (vs.length - (i + 1)) = v :: vs.drop (vs.length - i) := by
          have h1 : vs.length - (i + 1) < vs.length := by omega
          rw [List.drop_eq_getElem_cons h1, show vs.length - (i + 1) + 1 = vs.length - i by omega]
          congr 1
          have h2 : ((vs.toArray.size : Int) - 1 + (i : Int) * (-1)).toNat = vs.length - (i + 1) := by simp only [List.size_toArray]; omega
          rw [h2, List.getElem?_toArray, List.getElem?_eq_getElem h1] at hx
          exact Option.some.inj hx
        rw [e]
        exact ⟨fv, ⟨x9, d9, hA9, hB9, tA9, tB9, n9, rfl, .head _, .tail _ (.head _), hvh, hfh⟩, hch.mono fun q hq => .tail _ (.tail _ hq)⟩
      · intro q hq b hb
        have hb2 : b.1 < d9 := hlt10 b (List.mem_append_right _ hb)
        simp only [List.mem_cons] at hq
        rcases hq with rfl | rfl | h
        · exact Nat.lt_trans hb2 hdx9
        · exact hb2
        · exact hlt q h b hb
  · rintro m1 nx h tk ⟨fv, tl, hfv, hth, rfl, hch, hfh, hlt⟩ F2 N2
    dsimp only
    k_steps
    rw [Nat.sub_self, List.drop_zero] at hch
    exact ret _ tl _ _ hlt hch (by assumption) (by assumption)
end Mine
namespace Mine
local macro_rules | `(tactic| k_mem) => `(tactic| assumption)
set_option maxHeartbeats 8000000 in
/-- a cell's cdr is stored anew -/
theorem setc_ok {w : World} {A : Around} {h₀ : Heap} {L : Addr} {m : Str → Option Value} {s : Shared} {E : Value → Shared → Prop} {Q : Unit → Shared → Prop}
    {I x d : Addr} {it : Obj} {a1 a2 : Int} {a3 a4 : Tok} {v ov nv : Value} {a5 : Nat} {fx : List (Addr × Obj)}
    (F : Fr h₀ L s.heap m) (X : (Mine.hd.heap_1 w.params).In h₀) (N : News h₀ L s.heap ((I, it) :: (d, consDict a1 a2 a3 a4 v ov a5) :: fx)) (hx : (x, instObj 68 d) ∈ fx) (hfx : ∀ q ∈ fx, q.1 ≠ d) (hI : I ≠ d)
    (h : ∀ h', Fr h₀ L h' m → News h₀ L h' ((I, it) :: (d, consDict a1 a2 a3 a4 v nv a5) :: fx) → Q () { s with heap := h', toks := s.toks + 2 }) :
    wpAny (model PySem.Challenge.rw_oj0021_01.row.prog w) A (setAttr (.ref x) (Str.ofString "cdr") nv) Q E s := by
  revert X; k_fill; intro X
  k_dflt (refine' set_dict (es' := [⟨a1, .str (Str.ofString "car") a3, v⟩, ⟨a2, .str (Str.ofString "cdr") a4, nv⟩]) (n' := a5) F X N ?k4 ?k5 ?k6 ?k7 ?k8 ?k9 ?k10 ?k11 (.tail hI (.head hfx)) ?k13 h; (case k4 => k_inst); (case k5 => exact rfl); (case k6 => k_is); (case k7 => k_is); (case k8 => k_is); (case k9 => k_is); (case k10 => exact rfl); (case k11 => exact rfl); (case k13 => exact Nat.le_of_ble_eq_true rfl))
end Mine
namespace Mine
def Ring (news : List (Addr × Obj)) (cv : Value) (vs : List Value) (b : Nat) : Prop :=
  ∃ xs : Nat → Addr, (∀ i j, i < vs.length → j < vs.length → xs i = xs j → i = j) ∧ cv = .ref (xs 0) ∧
    ∀ i, i < vs.length → Cell news (.ref (xs i)) (vs.getD i .none) (.ref (xs (if i + 1 < vs.length then i + 1 else b)))
theorem carve (nx : List (Addr × Obj)) (d : Addr) : ∃ fx : List (Addr × Obj), (∀ q ∈ fx, q.1 ≠ d) ∧ ∀ q, q ∈ fx ↔ q ∈ nx ∧ q.1 ≠ d := by
  classical
  refine ⟨nx.filter fun q => decide (q.1 ≠ d), fun q hq => ?_, fun q => ?_⟩
  · simpa using (List.mem_filter.mp hq).2
  · simp [List.mem_filter]
local macro_rules | `(tactic| k_mem) => `(tactic| assumption)
local macro_rules | `(tactic| k_all) => `(tactic| assumption)
local macro_rules | `(tactic| k_room) => `(tactic| ((try simp only [depth_under_make, depth_under_kw, depth_in1, depth_deeper, depth_caller]); (try dsimp only [kA, Around.deeper]); (simp only [recursionLimit]; omega)))
set_option hygiene false in
local macro_rules | `(tactic| walk_at "call ref") => `(tactic| (k_here; (with_reducible show wpAny _ _ (call (Value.ref 278) _ _) _ _ _); k_dflt (refine' dip_okU ?B ?F ?X ?T ?a ?b ?N ?U ?P ?C ?hC ?hS ?k1 ?m0 ?m1 ?d ?_; (case B => assumption); (case F => k_asm); (case X => assumption); (case T => assumption); (case a => rfl); (case b => rfl); (case N => k_asm); (case U => k_updF); (case P => assumption); (case C => assumption); (case hC => (intro q9 hq9; k_ownIn)); (case hS => assumption); (case k1 => omega); (case m0 => (first | decide | omega | (simp only [List.size_toArray]; omega))); (case m1 => (first | decide | omega | (simp only [List.size_toArray]; omega))); (case d => (dsimp only [kA, Around.deeper]; omega))); intro r9 o9 t9 h9 tk9 hr0 hr1 hP9 F9 N9))
local macro_rules | `(tactic| walk_at "subscriptTail") => `(tactic| (k_here; (with_reducible show wpAny _ _ (subscriptTail _ _ (Value.ref _) (Value.int _ _)) _ _ _); k_dflt (refine' m_menu ?N ?m ?a ?b ?c ?hall ?_; (case N => k_asm); (case m => k_mem); (case a => assumption); (case b => omega); (case c => (simp only [List.length_cons, List.length_nil]; omega)); (case hall => (repeat' (first | exact trivial | exact Or.inl rfl | exact Or.inr (Or.inl rfl) | exact Or.inr (Or.inr ⟨_, _, rfl⟩) | refine And.intro ?_ ?_)))); intro v9 hv9))
set_option hygiene false in
local macro_rules | `(tactic| walk_at "call ref") => `(tactic| (k_here; (with_reducible show wpAny _ _ (call (Value.ref 200) _ _) _ _ _); k_dflt (refine' listof_ok ?B ?F ?X ?T ?a ?b ?N ?hl ?hn ?hv ?ht ?d ?_; (case B => assumption); (case F => k_asm); (case X => assumption); (case T => assumption); (case a => rfl); (case b => rfl); (case N => k_asm); (case hl => k_mem); (case hn => omega); (case hv => assumption); (case ht => assumption); (case d => (dsimp only [kA, Around.deeper]; omega))); intro rC9 tlC9 hC9 tkC9 hltC9 hchC9 FC9 NC9))
set_option hygiene false in
local macro_rules | `(tactic| walk_at "call ref") => `(tactic| (k_here; (with_reducible show wpAny _ _ (call (Value.ref 68) _ _) _ _ _); k_dflt (refine' cons_ok ?B ?F ?X ?T ?a ?b ?N ?c ?_; (case B => assumption); (case F => k_asm); (case X => assumption); (case T => assumption); (case a => rfl); (case b => rfl); (case N => k_asm); (case c => (dsimp only [kA, Around.deeper]; omega))); intro x9 d9 hA9 hB9 tA9 tB9 n9 h9 tk9 hlt9 hdx9 F9 N9))
local macro_rules | `(tactic| walk_at "subscriptTail") => `(tactic| (k_here; (with_reducible show wpAny _ _ (subscriptTail _ _ (Value.ref _) (Value.int _ _)) _ _ _); k_dflt (refine' m_item ?N ?m ?a ?b ?x ?_; (case N => k_asm); (case m => k_mem); (case a => omega); (case b => omega); (case x => assumption))))
local macro_rules | `(tactic| walk_at "pyIter ref") => `(tactic| (k_here; (with_reducible show wpAny _ _ (pyIter (Value.ref _)) (fun it s₂ => LoopAtV _ _ _ _ _ _ _ _ _ it s₂) _ _); refine stop ?_))
local macro_rules | `(tactic| walk_at "eval Name") => `(tactic| (k_here; (with_reducible show wpAny _ _ (eval (Expr.Name _ _) (envOfC _ _ _ _ _)) _ _ _); (with_reducible rename Fr _ _ _ _ => kF); k_dflt (refine' nameX_L kF ?k2 ?_ ?a ?b; (case a => rfl); (case b => rfl); (case k2 => first | exact rfl | assumption); k_whole)))
set_option hygiene false in
local macro_rules | `(tactic| walk_at "call builtin:len") => `(tactic| (k_here; (with_reducible show wpAny _ _ (call (Value.builtin "len") [Value.ref _]) _ _ _); k_dflt (refine' m_len ?N ?m ?f ?_; (case N => k_asm); (case m => k_mem); (case f => (simp only [List.size_toArray]; omega)); intro tL tkL)))
local macro_rules | `(tactic| walk_at "compareOp NotEq") => `(tactic| (k_here; (with_reducible show wpAny _ _ (compareOp CmpOp.NotEq (Value.ref _) (Value.ref _)) _ _ _); refine stop ?_))
local macro_rules | `(tactic| walk_at "CompSrc") => `(tactic| (k_here; refine stop ?_))
set_option maxHeartbeats 8000000 in
theorem chain_ok {w : World} {p : Program} {loose : List Str} {mean : ExcName → Option Value} {mg mb : Str → Option Value}
    {dp un : Nat} {gd : Option (List Code)} {env : Env} {outer : List Env} {A₀ : Around} {base h₀ : Heap} {L : Addr} {m : Str → Option Value} {news : List (Addr × Obj)} {s : Shared}
    {Q E : Value → Shared → Prop} {pa ca : Addr} {o : Obj} {k : Int}
    (B : Below A₀ base outer h₀) (F : Fr h₀ L s.heap m) (X : (Mine.hd.heap_1 w.params).In h₀) (T : Top p loose mean mg mb h₀) (hf : env.frame = some L) (hke : env.scope.kind = .function)
    (N : News h₀ L s.heap ((pa, o) :: news)) (P : PotObj ca k o) (C : PotCells ca news) (hsep : ∀ q ∈ news, q.1 ≠ pa)
    (hk1 : k < 900) (hdp : dp < 480) (hun : un < 5000)
    (ret : ∀ ra cv ev back tb la vs c o' nx h' tk', PotObj ca (k + 12) o' → AtomsL vs → vs.length ≤ 9 → (ra, tupOf #[cv, .ref la, ev, .int back tb]) ∈ nx → (la, W.listOf (List.toArray vs) c) ∈ nx →
      ((back = -1 ∧ Atom ev ∧ Chain nx cv vs ev) ∨ (∃ b : Nat, back = b ∧ b < vs.length ∧ ev = .none ∧ Ring nx cv vs b)) → (pa, o') ∈ nx → (∀ q ∈ news, q ∈ nx) →
      Fr h₀ L h' m → News h₀ L h' nx → Q (.ref ra) { s with heap := h', toks := tk' }) :
    wpAny (model PySem.Challenge.rw_oj0021_01.row.prog w) (kA dp un gd env outer) (call (.ref 283) [.ref pa]) Q E s := by
  revert X; k_fill; intro X
  refine wpAny_call ?_
  k_dflt (refine' code_defC (binds := [(Str.ofString "pot", .ref pa)]) B F X N T ?kA ?kF ?kK ?k6 ?k7 ?k8 ?k9 ?kB ?kD ?_ ?c2 ?c3 ?c4; (case kA => exact rfl); (case kF => exact hf); (case kK => exact hke); (case k6 => k_is); (case k7 => k_is); (case k8 => (simp only [recursionLimit]; omega)); (case k9 => exact BindsTo.of_eq rfl); (case kB => exact rfl); (case kD => decide +kernel); (case c2 => exact rfl); (case c3 => exact rfl); (case c4 => exact rfl))
  intro g' L' h' tk' cells' FG' F' N' Y' B' X' T' l1
  (try k_lt l1)
  k_cells Y'
  simp only [List.cons_append, List.nil_append] at N'
  rename_i oc hoc
  replace F' : Fr g' L' h' (fun _ => none) := F'
  replace hoc : oc.data = .cell (some (.ref pa)) := hoc
  try dsimp only
  try k_fold
  k_steps
  refine unstop ?_
  rename IsRange _ _ _ _ _ _ _ _ => R1
  rename Fr g' L' _ _ => F1
  rename News g' L' _ _ => N1
  (try clear F9)
  (try clear N9)
  (try clear N')
  (try clear F')
  (try clear P)
  refine LCg.CompSrc.range (n := r9.toNat) rfl F1 N1 R1 (small_one (by omega) (by omega) (by omega) (by omega)) ((rangeSize_nat _ _).trans (by rw [Int.sub_zero])) (by rw [sizeLine_eq]; omega) fun g => ?_
  refine' (?_ : ∀ (n i : Nat) (ys : List Value) (o1 : Obj), i + n ≤ 9 → ys.length = i → AtomsL ys → PotObj ca (k + 1 + i) o1 → LCg.CompRest _ _ _ _ _ _ _ _ _ _ _ _ _ _ _ n i ys ((L' + 1, oc) :: (pa, o1) :: news)) r9.toNat 0 [] o9 (by omega) rfl trivial (hP9.mono (by omega))
  intro n
  induction n with
  | zero =>
    intro i ys o1 hi hys hA hP1
    refine LCg.CompRest.zero ?_
    intro D hD tkD F3 N3 off3
    simp only [LCg.Off1] at off3
    have hav : ∀ v ∈ ys, Atom v := hA.mem
    dsimp only
    k_steps
    refine unstop ?_
    rename Fr g' L' _ _ => F4
    rename News g' L' _ _ => N4
    have hu : ((kA dp un gd env outer).deeper (envOfC (Str.ofString "_law_chain") default L' 283 (.ref 282))).units < cLine := by dsimp only [kA, Around.deeper, cLine]; omega
    by_cases hys0 : ys = []
    · have e0 : (([] : List Value).toArray) = ys.toArray := by rw [hys0]
      rw [e0] at N4
      k_dflt (refine' m_ne_same N4 ?m ?b ?u ?_; (case m => exact .tail _ (.head _)); (case b => exact .head _); (case u => exact hu))
      k_steps
      rename PotObj ca _ _ => hP2
      rename Atom _ => hv9
      rename Chain _ _ _ _ => hch
      rename Fr h₀ L _ _ => F9
      rename News h₀ L _ _ => N9
      exact ret _ _ _ _ _ _ _ _ _ _ _ _ (hP2.mono (by omega)) hA (by omega) (by exact .head _) (by exact .tail _ (List.mem_append_right _ (.tail _ (.tail _ (.head _))))) (.inl ⟨rfl, hv9, (by exact hch.mono fun q hq => .tail _ (List.mem_append_left _ hq))⟩)
          (by exact .tail _ (List.mem_append_right _ (.tail _ (.tail _ (.tail _ (.tail _ (.head _))))))) (by exact fun q hq => .tail _ (List.mem_append_right _ (.tail _ (.tail _ (.tail _ (.tail _ (.tail _ hq))))))) F9 N9
    · have hys1 : 0 < ys.length := List.length_pos_iff.mpr hys0
      k_dflt (refine' m_ne_len N4 ?m ?b ?n ?u ?_; (case m => exact .tail _ (.head _)); (case b => exact .head _); (case n => (simp only [List.size_toArray, List.length_nil, Array.size_empty]; omega)); (case u => exact hu))
      k_steps
      · rename PotObj ca _ _ => hP2
        rename Atom _ => hv9
        rename Chain _ _ _ _ => hch
        rename Fr h₀ L _ _ => F9
        rename News h₀ L _ _ => N9
        exact ret _ _ _ _ _ _ _ _ _ _ _ _ (hP2.mono (by omega)) hA (by omega) (by exact .head _) (by exact .tail _ (List.mem_append_right _ (.tail _ (.tail _ (.head _))))) (.inl ⟨rfl, hv9, (by exact hch.mono fun q hq => .tail _ (List.mem_append_left _ hq))⟩)
          (by exact .tail _ (List.mem_append_right _ (.tail _ (.tail _ (.tail _ (.tail _ (.head _))))))) (by exact fun q hq => .tail _ (List.mem_append_right _ (.tail _ (.tail _ (.tail _ (.tail _ (.tail _ hq))))))) F9 N9
      · refine unstop ?_
        rename PotObj ca _ _ => hP2
        rename ¬ _ < (0 : Int) => hback
        rename Fr g' L' _ _ => F5
        rename News g' L' _ _ => N5
        have N6 : News g' L' _ ((D, LCg.lst ys) :: (L' + 1, oc) :: (pa, o9) :: news) := fun q hq => N5 q (.tail _ hq)
        refine LCg.CompSrc.ledger rfl F5 N6 (.head _) (by simp only [List.size_toArray, sizeLine_eq]; omega) fun g2 => ?_
        refine' (?_ : ∀ (n2 i2 : Nat) (zs : List Value) (cl : List (Addr × Obj)) (xs ds : Nat → Addr), i2 + n2 = ys.length → zs.length = i2 → (∀ j, j < i2 → zs[j]? = some (.ref (xs j))) →
          (∀ j, j < i2 → (xs j, instObj 68 (ds j)) ∈ cl ∧ ∃ h1 h2 t1 t2 c, (ds j, consDict h1 h2 t1 t2 (ys.getD j .none) (.ref 44) c) ∈ cl) → (∀ j j', j < j' → j' < i2 → xs j < xs j' ∧ ds j < ds j') →
          (∀ j, j < i2 → ∀ q ∈ (D, LCg.lst ys) :: (L' + 1, oc) :: (pa, o9) :: news, q.1 < ds j) →
          LCg.CompRest _ _ _ _ _ _ _ _ _ _ _ _ _ _ _ n2 i2 zs (cl ++ ((D, LCg.lst ys) :: (L' + 1, oc) :: (pa, o9) :: news))) ys.length 0 [] [] (fun _ => 0) (fun _ => 0) (by omega) rfl
            (fun j h => absurd h (Nat.not_lt_zero _)) (fun j h => absurd h (Nat.not_lt_zero _)) (fun j j' _ h => absurd h (Nat.not_lt_zero _)) (fun j h => absurd h (Nat.not_lt_zero _))
        intro n2
        induction n2 with
        | zero =>
          intro i2 zs cl xs ds hi2 hzl hzs hcl hmono hsepb
          refine LCg.CompRest.zero ?_
          intro D2 hD2 tkD2 F7 N7 off7
          dsimp only
          k_steps
          refine unstop ?_
          rename IsRange _ _ _ _ _ _ _ _ => R8
          rename Fr g' L' _ _ => F8
          rename News g' L' _ _ => N8
          have e2 : i2 = ys.length := by omega
          subst e2
          simp only [List.size_toArray] at hr1
          have hxs : ∀ j, j < ys.length → zs.toArray[j]? = some (.ref (xs j)) := fun j hj => by rw [List.getElem?_toArray]; exact hzs j hj
          refine range_inv (fun i3 m1 nx => m1 (Str.ofString "cells") = some (.ref D2) ∧ m1 (Str.ofString "things") = some (.ref D) ∧ (∃ tb, m1 (Str.ofString "back") = some (.int (r9 - 2) tb)) ∧ (D2, LCg.lst zs) ∈ nx ∧
            (∀ q ∈ (D, LCg.lst ys) :: (L' + 1, oc) :: (pa, o9) :: news, q ∈ nx) ∧
            (∀ j, j < ys.length → (xs j, instObj 68 (ds j)) ∈ nx ∧ ∃ h1 h2 t1 t2 c, (ds j, consDict h1 h2 t1 t2 (ys.getD j .none) (if j < i3 then .ref (xs (if j + 1 < ys.length then j + 1 else (r9 - 2).toNat)) else .ref 44) c) ∈ nx))
            rfl R8 (small_one (by omega) (by omega) (by simp only [List.size_toArray]; omega) (by simp only [List.size_toArray]; omega)) ((rangeSize_nat _ _).trans (congrArg Nat.cast (show _ = ys.length by simp only [List.size_toArray]; omega))) F8 N8 ?_ ?_ ?_
          · exact ⟨rfl, rfl, ⟨_, rfl⟩, .head _, fun q hq => .tail _ (List.mem_append_right _ hq), fun j hj => ⟨.tail _ (List.mem_append_left _ (hcl j hj).1), by
              obtain ⟨a1, a2, a3, a4, a5, hm⟩ := (hcl j hj).2
              exact ⟨a1, a2, a3, a4, a5, by rw [if_neg (Nat.not_lt_zero _)]; exact .tail _ (List.mem_append_left _ hm)⟩⟩⟩
          · rintro I it i3 m1 nx t h tk hi hoff ⟨hce, hth, ⟨tb, hba⟩, hD2m, hbase, hcells⟩ F9 N9
            obtain ⟨hxi, a1, a2, a3, a4, a5, hdi⟩ := hcells i3 hi
            rw [if_neg (Nat.lt_irrefl _)] at hdi
            obtain ⟨fx, hfx, hfm⟩ := carve nx (ds i3)
            have hIne : I ≠ ds i3 := fun e => hoff _ hdi e.symm
            have N2 : News g' L' h nx := fun q hq => N9 q (.tail _ hq)
            have N10 : News g' L' h ((I, it) :: (ds i3, consDict a1 a2 a3 a4 (ys.getD i3 .none) (.ref 44) a5) :: fx) := by
              intro q hq
              rcases List.mem_cons.mp hq with h | hq
              · exact N9 q (h ▸ .head _)
              rcases List.mem_cons.mp hq with h | hq
              · exact h ▸ N9 _ (.tail _ hdi)
              exact N9 q (.tail _ ((hfm q).mp hq).1)
            have hnD : (D2, LCg.lst zs) ∈ fx := (hfm _).mpr ⟨hD2m, ne_of_objs N2 hD2m hdi fun e => nomatch congrArg Obj.data e⟩
            have hnX : ∀ j, j < ys.length → (xs j, instObj 68 (ds j)) ∈ fx := fun j hj => (hfm _).mpr ⟨(hcells j hj).1, ne_of_objs N2 (hcells j hj).1 hdi fun e => nomatch congrArg Obj.data e⟩
            have hnB : ∀ q ∈ (D, LCg.lst ys) :: (L' + 1, oc) :: (pa, o9) :: news, q ∈ fx := fun q hq => (hfm _).mpr ⟨hbase q hq, Nat.ne_of_lt (hsepb i3 hi q hq)⟩
            have hnX3 := hnX i3 hi
            have hcells' : ∀ j, j < ys.length → j ≠ i3 → ∃ h1 h2 t1 t2 c, (ds j, consDict h1 h2 t1 t2 (ys.getD j .none) (if j < i3 + 1 then .ref (xs (if j + 1 < ys.length then j + 1 else (r9 - 2).toNat)) else .ref 44) c) ∈ fx := by
              intro j hj hne
              obtain ⟨_, b1, b2, b3, b4, b5, b6⟩ := hcells j hj
              have e : (j < i3 + 1) = (j < i3) := propext ⟨fun h => by omega, fun h => by omega⟩
              refine ⟨b1, b2, b3, b4, b5, (hfm _).mpr ⟨by simp only [e]; exact b6, ?_⟩⟩
              rcases Nat.lt_or_gt_of_ne hne with h | h
              · exact Nat.ne_of_lt (hmono j i3 h hi).2
              · exact Nat.ne_of_gt (hmono i3 j h hj).2
            have fin : ∀ nv, nv = .ref (xs (if i3 + 1 < ys.length then i3 + 1 else (r9 - 2).toNat)) → ∀ j, j < ys.length → (xs j, instObj 68 (ds j)) ∈ (ds i3, consDict a1 a2 a3 a4 (ys.getD i3 .none) nv a5) :: fx ∧
                ∃ h1 h2 t1 t2 c, (ds j, consDict h1 h2 t1 t2 (ys.getD j .none) (if j < i3 + 1 then .ref (xs (if j + 1 < ys.length then j + 1 else (r9 - 2).toNat)) else .ref 44) c) ∈ (ds i3, consDict a1 a2 a3 a4 (ys.getD i3 .none) nv a5) :: fx := by
              intro nv env9 j hj
              refine ⟨.tail _ (hnX j hj), ?_⟩
              by_cases e : j = i3
              · subst e
                rw [if_pos (Nat.lt_succ_self _), ← env9]
                exact ⟨_, _, _, _, _, .head _⟩
              · obtain ⟨b1, b2, b3, b4, b5, b6⟩ := hcells' j hj e
                exact ⟨b1, b2, b3, b4, b5, .tail _ b6⟩
            have hofx : ∀ nv, ∀ q ∈ (ds i3, consDict a1 a2 a3 a4 (ys.getD i3 .none) nv a5) :: fx, q.1 ≠ I := by
              intro nv q hq
              rcases List.mem_cons.mp hq with rfl | hq
              · exact fun e => hIne e.symm
              · exact hoff q ((hfm q).mp hq).1
            have hx1 : zs.toArray[((0 : Int) + (i3 : Int) * 1).toNat]? = some (.ref (xs i3)) := by rw [show ((0 : Int) + (i3 : Int) * 1).toNat = i3 by omega]; exact hxs i3 hi
            have hx3 : zs.toArray[(r9 - 2).toNat]? = some (.ref (xs (r9 - 2).toNat)) := hxs _ (by omega)
            clear N9 hcells hoff N2
            k_steps
            · have hp1 : (0 : Int) + (i3 : Int) * 1 + 1 < (zs.toArray.size : Int) := by assumption
              simp only [List.size_toArray] at hp1
              have hx2 : zs.toArray[((0 : Int) + (i3 : Int) * 1 + 1).toNat]? = some (.ref (xs (i3 + 1))) := by rw [show ((0 : Int) + (i3 : Int) * 1 + 1).toNat = i3 + 1 by omega]; exact hxs (i3 + 1) (by omega)
              k_steps
              refine setc_ok (by assumption) X' N10 hnX3 hfx hIne fun h3 F3 N3 => ?_
              k_steps
              exact ⟨_, _, _, _, rfl, F3, N3, hofx _, hce, hth, ⟨_, hba⟩, .tail _ hnD, fun q hq => .tail _ (hnB q hq), fin _ (by rw [if_pos (by omega)])⟩
            · have hp1 : ¬ ((0 : Int) + (i3 : Int) * 1 + 1 < (zs.toArray.size : Int)) := by assumption
              simp only [List.size_toArray] at hp1
              refine setc_ok (by assumption) X' N10 hnX3 hfx hIne fun h3 F3 N3 => ?_
              k_steps
              exact ⟨_, _, _, _, rfl, F3, N3, hofx _, hce, hth, ⟨_, hba⟩, .tail _ hnD, fun q hq => .tail _ (hnB q hq), fin _ (by rw [if_neg (by omega)])⟩
          · rintro m1 nx h tk ⟨hce, hth, ⟨tb, hba⟩, hD2m, hbase, hcells⟩ F9 N9
            have hx0 : zs.toArray[(0 : Int).toNat]? = some (.ref (xs 0)) := hxs 0 hys1
            dsimp only
            k_steps
            rename Fr h₀ L _ _ => F9'
            rename News h₀ L _ _ => N9'
            have hlen9 : ys.length ≤ 9 := by omega
            have hcl9 : ∀ j, j < ys.length → (xs j, instObj 68 (ds j)) ∈ nx ∧ ∃ h1 h2 t1 t2 c, (ds j, consDict h1 h2 t1 t2 (ys.getD j .none) (.ref (xs (if j + 1 < ys.length then j + 1 else (r9 - 2).toNat))) c) ∈ nx := by
              intro j hj
              have := hcells j hj
              rw [if_pos hj] at this
              exact this
            refine ret _ _ _ _ _ _ _ _ _ _ _ _ (hP2.mono (by omega)) hA hlen9 (.head _) (.tail _ (hbase _ (.head _))) (.inr ⟨(r9 - 2).toNat, by omega, by omega, rfl, xs, ?_, rfl, ?_⟩)
              (.tail _ (hbase _ (.tail _ (.tail _ (.head _))))) (fun q hq => .tail _ (hbase q (.tail _ (.tail _ (.tail _ hq))))) F9' N9'
            · intro i j hi hj e
              rcases Nat.lt_trichotomy i j with h | h | h
              · exact absurd e (Nat.ne_of_lt (hmono i j h hj).1)
              · exact h
              · exact absurd e.symm (Nat.ne_of_lt (hmono j i h hi).1)
            · intro j hj
              obtain ⟨b0, b1, b2, b3, b4, b5, b6⟩ := hcl9 j hj
              refine ⟨xs j, ds j, b1, b2, b3, b4, b5, rfl, .tail _ b0, .tail _ b6, ?_, rfl⟩
              have hlj : j < ys.length := hj
              rw [List.getD_eq_getElem?_getD, List.getElem?_eq_getElem hlj]
              exact (hA.mem _ (List.getElem_mem hlj)).handed
        | succ n2 ih2 =>
          intro i2 zs cl xs ds hi2 hzl hzs hcl hmono hsepb
          refine LCg.CompRest.succ ?_
          intro v I oI C oC D2 m2 hC2 tkC2 E' hv hNs hx F7 N7 off7 hne7
          k_steps
          have hv' : v = ys.getD i2 .none := by
            have h1 : i2 < ys.length := by omega
            rw [List.getElem?_toArray, List.getElem?_eq_getElem h1] at hv
            rw [List.getD_eq_getElem?_getD, List.getElem?_eq_getElem h1]
            exact (Option.some.inj hv).symm
          have hId : I < d9 := hlt9 _ (.head _)
          have hCd : C < d9 := hlt9 _ (.tail _ (.head _))
          have hDd : D2 < d9 := hlt9 _ (.tail _ (.tail _ (.head _)))
          have hrd : ∀ q ∈ cl ++ ((D, LCg.lst ys) :: (L' + 1, oc) :: (pa, o9) :: news), q.1 < d9 := fun q hq => hlt9 _ (.tail _ (.tail _ (.tail _ hq)))
          refine LCg.CompEnd.intro F9 N9 (((x9, instObj 68 d9) :: (d9, consDict hA9 hB9 tA9 tB9 v (.ref 44) n9) :: cl) ++ ((D, LCg.lst ys) :: (L' + 1, oc) :: (pa, o9) :: news)) ?_ ?_ ?_ ?_
          · intro q hq
            rcases List.mem_cons.mp hq with h | hq
            · exact .tail _ (.tail _ (h ▸ .head _))
            rcases List.mem_cons.mp hq with h | hq
            · exact .tail _ (.tail _ (.tail _ (h ▸ .head _)))
            rcases List.mem_cons.mp hq with h | hq
            · exact .tail _ (.tail _ (.tail _ (.tail _ (h ▸ .head _))))
            rcases List.mem_cons.mp hq with h | hq
            · exact h ▸ .head _
            rcases List.mem_cons.mp hq with h | hq
            · exact .tail _ (h ▸ .head _)
            exact .tail _ (.tail _ (.tail _ (.tail _ (.tail _ hq))))
          · refine LCg.Off3.of fun q hq => ?_
            rcases List.mem_cons.mp hq with rfl | hq
            · exact ⟨Nat.ne_of_gt (Nat.lt_trans hId hdx9), Nat.ne_of_gt (Nat.lt_trans hCd hdx9), Nat.ne_of_gt (Nat.lt_trans hDd hdx9)⟩
            rcases List.mem_cons.mp hq with rfl | hq
            · exact ⟨Nat.ne_of_gt hId, Nat.ne_of_gt hCd, Nat.ne_of_gt hDd⟩
            exact off7.mem q hq
          · exact .inr ⟨LCg.lst ys, List.mem_append_right _ (.head _), rfl, ys.length, rfl⟩
          · refine ih2 (i2 + 1) (zs ++ [.ref x9]) ((x9, instObj 68 d9) :: (d9, consDict hA9 hB9 tA9 tB9 v (.ref 44) n9) :: cl) (fun j => if j = i2 then x9 else xs j) (fun j => if j = i2 then d9 else ds j) (by omega) (by simp [hzl]) ?_ ?_ ?_ ?_
            · intro j hj
              by_cases e : j = i2
              · subst e
                simp [hzl]
              · rw [List.getElem?_append_left (by omega), hzs j (by omega)]
                simp [e]
            · intro j hj
              by_cases e : j = i2
              · subst e
                simp only [if_true]
                exact ⟨.head _, hA9, hB9, tA9, tB9, n9, by rw [← hv']; exact .tail _ (.head _)⟩
              · simp only [if_neg e]
                obtain ⟨a0, a1, a2, a3, a4, a5, a6⟩ := hcl j (by omega)
                exact ⟨.tail _ (.tail _ a0), a1, a2, a3, a4, a5, .tail _ (.tail _ a6)⟩
            · intro j j' hjj hj'
              have e : j ≠ i2 := by omega
              simp only [if_neg e]
              by_cases e' : j' = i2
              · simp only [if_pos e']
                obtain ⟨a0, a1, a2, a3, a4, a5, a6⟩ := hcl j (by omega)
                exact ⟨Nat.lt_trans (hrd _ (List.mem_append_left _ a0)) hdx9, hrd _ (List.mem_append_left _ a6)⟩
              · simp only [if_neg e']
                exact hmono j j' hjj (by omega)
            · intro j hj q hq
              by_cases e : j = i2
              · simp only [if_pos e]
                exact hrd q (List.mem_append_right _ hq)
              · simp only [if_neg e]
                exact hsepb j (by omega) q hq
  | succ n ih =>
    intro i ys o1 hi hys hA hP1
    refine LCg.CompRest.succ ?_
    intro v I oI C oC D m2 hC tkC E' hv hNs hx F3 N3 off3 hne3
    simp only [LCg.Off3] at off3
    k_steps
    rename Atom _ => hv9
    rename PotObj ca _ _ => hP2
    rename Fr g' L' _ _ => F4
    rename News g' L' _ _ => N4
    refine LCg.CompEnd.intro F4 N4 ((L' + 1, oc) :: (pa, _) :: news) (fun q hq => .tail _ hq) (by simp only [LCg.Off3]; exact off3) trivial ?_
    exact ih (i + 1) _ _ (by omega) (by simp [hys]) (hA.append hv9) (hP2.mono (by omega))
end Mine
namespace Mine
/-- the way through a ring of n cells, the last one leading back to b -/
def ridx (n b : Nat) : Nat → Nat
  | 0 => 0
  | i + 1 => if ridx n b i + 1 < n then ridx n b i + 1 else b
theorem ridx_lt {n b : Nat} (h : b < n) : ∀ i, ridx n b i < n
  | 0 => Nat.lt_of_le_of_lt (Nat.zero_le _) h
  | i + 1 => by unfold ridx; split <;> assumption
def rmeet (n b : Nat) : Nat := ((List.range 10).find? fun j => decide (0 < j) && (ridx n b (2 * j) == ridx n b j)).getD 0
def rdue {α : Type} (vs : List α) (b : Nat) : List α := vs ++ (List.replicate 20 (vs.drop b)).flatten
def rchk (n b : Nat) : Bool :=
  decide (0 < rmeet n b) && decide (rmeet n b ≤ 9) && (ridx n b (2 * rmeet n b) == ridx n b (rmeet n b)) && (List.range (rmeet n b)).all (fun i => (i == 0) || !(ridx n b (2 * i) == ridx n b i)) &&
    decide (n ≤ 2 * rmeet n b) && ((List.range (2 * rmeet n b)).map (ridx n b) == (rdue (List.range n) b).take (2 * rmeet n b))
theorem rchk_all : (List.range 10).all (fun n => (List.range n).all fun b => rchk n b) = true := by decide +kernel
theorem ring_nums {n b : Nat} (hn : n ≤ 9) (hb : b < n) : ∃ j, 0 < j ∧ j ≤ 9 ∧ ridx n b (2 * j) = ridx n b j ∧ (∀ i, 0 < i → i < j → ridx n b (2 * i) ≠ ridx n b i) ∧ n ≤ 2 * j ∧
    (List.range (2 * j)).map (ridx n b) = (rdue (List.range n) b).take (2 * j) := by
  have h := List.all_eq_true.mp (List.all_eq_true.mp rchk_all n (List.mem_range.mpr (by omega))) b (List.mem_range.mpr hb)
  unfold rchk at h
  simp only [Bool.and_eq_true, decide_eq_true_eq, beq_iff_eq, List.all_eq_true, Bool.or_eq_true, Bool.not_eq_true', beq_eq_false_iff_ne, List.mem_range] at h
  obtain ⟨⟨⟨⟨⟨h1, h2⟩, h3⟩, h4⟩, h5⟩, h6⟩ := h
  exact ⟨rmeet n b, h1, h2, h3, fun i hi hj => (h4 i hj).resolve_left (by omega), h5, h6⟩
theorem map_getD_range : ∀ (vs : List Value), (List.range vs.length).map (fun i => vs.getD i Value.none) = vs := by
  intro vs
  refine List.ext_getElem (by simp) fun i h1 h2 => ?_
  simp only [List.getElem_map, List.getElem_range]
  rw [List.getD_eq_getElem?_getD, List.getElem?_eq_getElem h2]
  rfl
theorem map_rdue {α β : Type} (f : α → β) (l : List α) (b : Nat) : (rdue l b).map f = rdue (l.map f) b := by
  simp [rdue, List.map_drop]
/-- the pairs that split_list meets, and where it stops -/
def PathD (nx : List (Addr × Obj)) (cv : Value) (vs : List Value) (ev : Value) (back : Int) : Prop :=
  ∃ (P V : Nat → Value) (K : Nat) (rv : Value), cv = P 0 ∧ K ≤ 18 ∧ (∀ k, k < K → Cell nx (P k) (V k) (P (k + 1))) ∧ (∀ j, 0 < j → 2 * j < K → P (2 * j) ≠ P j) ∧
    ((rv = P K ∧ Atom (P K)) ∨ ∃ j, 0 < j ∧ K = 2 * j ∧ P K = P j ∧ rv = .none) ∧
    ((back = -1 ∧ Atom ev ∧ K = vs.length ∧ (List.range K).map V = vs ∧ rv = ev ∧ P K = ev) ∨
      ∃ b : Nat, back = b ∧ b < vs.length ∧ ev = .none ∧ rv = .none ∧ vs.length ≤ K ∧ (List.range K).map V = (rdue vs b).take K)
theorem ring_path {nx : List (Addr × Obj)} {cv : Value} {vs : List Value} {b : Nat} (hlen : vs.length ≤ 9) (hb : b < vs.length) (R : Ring nx cv vs b) : PathD nx cv vs .none b := by
  obtain ⟨xs, inj, rfl, hc⟩ := R
  obtain ⟨j, h1, h2, h3, h4, h5, h6⟩ := ring_nums hlen hb
  have lt := ridx_lt hb
  refine ⟨fun k => .ref (xs (ridx vs.length b k)), fun k => vs.getD (ridx vs.length b k) .none, 2 * j, .none, rfl, by omega, fun k _ => ?_, fun i hi hj e => ?_, .inr ⟨j, h1, rfl, ?_, rfl⟩, .inr ⟨b, rfl, hb, rfl, rfl, h5, ?_⟩⟩
  · exact hc _ (lt k)
  · injection e with e
    exact h4 i hi (by omega) (inj _ _ (lt _) (lt _) e)
  · show Value.ref (xs (ridx _ _ (2 * j))) = Value.ref (xs (ridx _ _ j))
    rw [h3]
  · have e := congrArg (List.map fun i => vs.getD i Value.none) h6
    rw [List.map_map, List.map_take, map_rdue, map_getD_range] at e
    exact e
/-- what holds of a ledger that stands beside the text's own objects -/
theorem atom_noCell {g : Heap} {L : Addr} {h : Heap} {nx : List (Addr × Obj)} (N : News g L h nx) (h44 : g.get? 44 ≠ none) (h47 : g.get? 47 ≠ none) {x v y : Value} (hx : Atom x) : ¬ Cell nx x v y := by
  rintro ⟨a, d, h1, h2, t1, t2, n, e, m1, m2, _⟩
  rcases hx with rfl | rfl | ⟨i, t, rfl⟩
  · injection e with e
    subst e
    exact h44 (N _ m1).2.2
  · injection e with e
    subst e
    exact h47 (N _ m1).2.2
  · exact nomatch e
theorem cell_det {g : Heap} {L : Addr} {h : Heap} {nx : List (Addr × Obj)} (N : News g L h nx) {x v y v' y' : Value} (h1 : Cell nx x v y) (h2 : Cell nx x v' y') : y = y' := by
  obtain ⟨a, d, c1, c2, t1, t2, n, e, m1, m2, _⟩ := h1
  obtain ⟨a', d', c1', c2', t1', t2', n', e', m1', m2', _⟩ := h2
  have ea : a = a' := by injection e.symm.trans e'
  subst ea
  have ed : instObj 68 d = instObj 68 d' := Option.some.inj ((N _ m1).1.symm.trans (N _ m1').1)
  have ed' : d = d' := Option.some.inj (congrArg Obj.dict ed)
  subst ed'
  have eo := Option.some.inj ((N _ m2).1.symm.trans (N _ m2').1)
  simp only [consDict, dictOf] at eo
  simp_all
theorem chain_len {g : Heap} {L : Addr} {h : Heap} {nx : List (Addr × Obj)} (N : News g L h nx) (h44 : g.get? 44 ≠ none) (h47 : g.get? 47 ≠ none) {e : Value} (he : Atom e) :
    ∀ {vs ws : List Value} {x : Value}, Chain nx x vs e → Chain nx x ws e → vs.length = ws.length
  | [], [], _, _, _ => rfl
  | [], _ :: _, _, h1, ⟨_, hc, _⟩ => absurd hc (atom_noCell N h44 h47 ((show _ = e from h1) ▸ he))
  | _ :: _, [], _, ⟨_, hc, _⟩, h2 => absurd hc (atom_noCell N h44 h47 ((show _ = e from h2) ▸ he))
  | _ :: r, _ :: r', _, ⟨n1, c1, q1⟩, ⟨n2, c2, q2⟩ => by
    have e := cell_det N c1 c2
    subst e
    simp [chain_len N h44 h47 he q1 q2]
theorem chain_fun {nx : List (Addr × Obj)} {e : Value} : ∀ {vs : List Value} {x : Value}, Chain nx x vs e →
    ∃ P : Nat → Value, P 0 = x ∧ P vs.length = e ∧ (∀ k, k < vs.length → Cell nx (P k) (vs.getD k .none) (P (k + 1))) ∧ ∀ k, k ≤ vs.length → Chain nx (P k) (vs.drop k) e
  | [], x, h => ⟨fun _ => x, rfl, h, fun k hk => absurd hk (Nat.not_lt_zero _), fun k hk => by
      have : k = 0 := Nat.le_zero.mp hk
      subst this
      exact h⟩
  | v :: r, x, ⟨y, hc, hr⟩ => by
    obtain ⟨P, p0, pe, pc, pd⟩ := chain_fun hr
    refine ⟨fun k => match k with | 0 => x | k + 1 => P k, rfl, pe, fun k hk => ?_, fun k hk => ?_⟩
    · cases k with
      | zero => show Cell nx x v (P 0); rw [p0]; exact hc
      | succ k => exact pc k (Nat.lt_of_succ_lt_succ hk)
    · cases k with
      | zero => exact ⟨y, hc, hr⟩
      | succ k => exact pd k (Nat.le_of_succ_le_succ hk)
theorem chain_path {g : Heap} {L : Addr} {h : Heap} {nx : List (Addr × Obj)} (N : News g L h nx) (h44 : g.get? 44 ≠ none) (h47 : g.get? 47 ≠ none) {cv ev : Value} {vs : List Value} (hlen : vs.length ≤ 9) (he : Atom ev) (C : Chain nx cv vs ev) :
    PathD nx cv vs ev (-1) := by
  obtain ⟨P, p0, pe, pc, pd⟩ := chain_fun C
  refine ⟨P, fun k => vs.getD k .none, vs.length, ev, p0.symm, by omega, pc, fun j hj hj2 e => ?_, .inl ⟨pe.symm, pe ▸ he⟩, .inl ⟨rfl, he, rfl, map_getD_range vs, rfl, pe⟩⟩
  have h1 := pd (2 * j) (by omega)
  rw [e] at h1
  have := chain_len N h44 h47 he h1 (pd j (by omega))
  simp only [List.length_drop] at this
  omega
end Mine
namespace Mine
section
variable {prog : Program} {w : World} {A : Around} {E : Value → Shared → Prop} {s : Shared} {K : Frag} {x C : Addr}
theorem ifBound_B {M : Model} {name : Str} {id : String} {args : List Value} {Q : Option Value → Shared → Prop} (X : K.In s.heap) (ht : Looks M s.heap (typeOf (.ref x)) (.ref C)) (hs : findIn K (.ref C) name = some (some (.builtin id)))
    (hb : ∀ self, bindSpecial (.builtin id) self = pure (.builtin id, [self])) (h : wpAny M A (call (.builtin id) (.ref x :: args)) (fun v => Q (some v)) E s) : wpAny M A (callSpecialIfBound? (.ref x) name args) Q E s := by
  simp only [callSpecialIfBound?, bindSpecialIfBound?]
  refine wpAny_holding (wpAny_bind (wpAny_bind (wpAny_bind (ht.here ((looks_findIn X hs).here ?_)))))
  simp only [hb]
  refine wpAny_bind (wpAny_askSetting (wpAny_ite ?_))
  have fin : wpAny M A (call (.builtin id) ([.ref x] ++ args) >>= fun v => pure (some v)) Q E s := wpAny_bind (wpAny_mono h (fun v s' h' => wpAny_pure h') fun _ _ h' => h')
  split
  · exact wpAny_bind (wpAny_pure (wpAny_pure fin))
  · exact wpAny_tryCatch (wpAny_bind (wpAny_pure (wpAny_pure fin)))
/-- an object of a class that keeps object's own comparisons -/
structure PlainCmp (K : Frag) (M : Model) (h : Heap) (x C : Addr) : Prop where
  typ : Looks M h (typeOf (.ref x)) (.ref C)
  obj : Looks M h (isInstance (.ref x) (.type "object")) true
  eq : findIn K (.ref C) "__eq__" = some (some (.builtin "object.__eq__"))
  ne : findIn K (.ref C) "__ne__" = some (some (.builtin "object.__ne__"))
theorem call_eqB {Q : Value → Shared → Prop} (P : PlainCmp K (model prog w) s.heap x C) (hq : Q (.bool true) s) : wpAny (model prog w) A (call (.builtin "object.__eq__") [.ref x, .ref x]) Q E s :=
  wpAny_call (codeAny_call_builtin PySem.F.cmp_object.eq.plain PySem.F.cmpEntry_eq (check_slot PySem.F.cmpKind_eq PySem.F.cmpSplit_eq P.obj (PySem.F.cmpArgs_eq _ _) (objEq_entry_same hq)))
theorem special_eqB {Q : Option Value → Shared → Prop} (X : K.In s.heap) (P : PlainCmp K (model prog w) s.heap x C) (hq : Q (some (.bool true)) s) : wpAny (model prog w) A (callSpecialIfBound? (.ref x) "__eq__" [.ref x]) Q E s :=
  ifBound_B X P.typ P.eq PySem.F.cmp_object.eq.bind (call_eqB P hq)
theorem tryEqB {Q : Option Value → Shared → Prop} (X : K.In s.heap) (P : PlainCmp K (model prog w) s.heap x C) (hq : Q (some (.bool true)) s) : wpAny (model prog w) A (tryCompare (.ref x) "__eq__" (.ref x)) Q E s := by
  simp only [tryCompare]
  exact wpAny_bind (special_eqB X P (wpAny_pure hq))
theorem objNeB {Q : PySem.Fin → Shared → Prop} (X : K.In s.heap) (P : PlainCmp K (model prog w) s.heap x C) (hu : A.units < cLine) (hq : Q (.done (.ret (.bool false))) s) :
    wpAny (model prog w) A (Builtin.«object.__ne__» ⟨[.ref x, .ref x], []⟩) Q E s := by
  unfold Builtin.«object.__ne__»
  repeat (first | with_reducible refine wpAny_cRoomFor hu ?_ | with_reducible refine special_eqB X P ?_ | wp_step)
  exact hq
theorem tryNeB {Q : Option Value → Shared → Prop} (X : K.In s.heap) (P : PlainCmp K (model prog w) s.heap x C) (hu : A.units + 1 < cLine) (hq : Q (some (.bool false)) s) : wpAny (model prog w) A (tryCompare (.ref x) "__ne__" (.ref x)) Q E s := by
  simp only [tryCompare]
  refine wpAny_bind (ifBound_B X P.typ P.ne PySem.F.cmp_object.ne.bind (wpAny_call (codeAny_call_builtin PySem.F.cmp_object.ne.plain PySem.F.cmpEntry_ne
    (check_slot PySem.F.cmpKind_ne PySem.F.cmpSplit_ne P.obj (PySem.F.cmpArgs_ne _ _) (objNeB (A := A.in1) X P hu ?_)))))
  exact wpAny_pure hq
theorem eqB {Q : Value → Shared → Prop} (X : K.In s.heap) (P : PlainCmp K (model prog w) s.heap x C) (hu : A.units < cLine) (hq : Q (.bool true) s) : wpAny (model prog w) A (compareOp .Eq (.ref x) (.ref x)) Q E s := by
  show wpAny (model prog w) A (richCompare .Eq (.ref x) (.ref x)) Q E s
  unfold richCompare
  simp only [oneThing_ref, cmpInfo_Eq]
  refine wpAny_holding (wpAny_bind (wpAny_cRoomFor hu ?_))
  refine wpAny_bind (P.typ.here (wpAny_bind (P.typ.here ?_)))
  rw [if_neg (by simp)]
  refine wpAny_bind (wpAny_pure ?_)
  simp only [Bool.false_eq_true, if_false]
  exact wpAny_bind (tryEqB X P (wpAny_pure hq))
theorem neB {Q : Value → Shared → Prop} (X : K.In s.heap) (P : PlainCmp K (model prog w) s.heap x C) (hu : A.units + 1 < cLine) (hq : Q (.bool false) s) : wpAny (model prog w) A (compareOp .NotEq (.ref x) (.ref x)) Q E s := by
  show wpAny (model prog w) A (richCompare .NotEq (.ref x) (.ref x)) Q E s
  unfold richCompare
  simp only [oneThing_ref, cmpInfo_NotEq]
  refine wpAny_holding (wpAny_bind (wpAny_cRoomFor (Nat.lt_of_succ_lt hu) ?_))
  refine wpAny_bind (P.typ.here (wpAny_bind (P.typ.here ?_)))
  rw [if_neg (by simp)]
  refine wpAny_bind (wpAny_pure ?_)
  simp only [Bool.false_eq_true, if_false]
  exact wpAny_bind (tryNeB X P hu (wpAny_pure hq))
end
end Mine
namespace Mine
set_option maxHeartbeats 8000000 in
theorem plain44 {w : World} {h : Heap} (X : (Mine.hd.heap_1 w.params).In h) : PlainCmp (Mine.hd.heap_1 w.params) (model PySem.Challenge.rw_oj0021_01.row.prog w) h 44 38 := by
  revert X; k_fill; intro X
  exact ⟨looks_typeIn X (by k_is), looks_instIn X (by k_is), by k_is, by k_is⟩
set_option maxHeartbeats 8000000 in
theorem plain47 {w : World} {h : Heap} (X : (Mine.hd.heap_1 w.params).In h) : PlainCmp (Mine.hd.heap_1 w.params) (model PySem.Challenge.rw_oj0021_01.row.prog w) h 47 38 := by
  revert X; k_fill; intro X
  exact ⟨looks_typeIn X (by k_is), looks_instIn X (by k_is), by k_is, by k_is⟩
theorem atom_ne {w : World} {A : Around} {h₀ : Heap} {L : Addr} {m : Str → Option Value} {s : Shared} {E : Value → Shared → Prop} {Q : Value → Shared → Prop} {v : Value}
    (F : Fr h₀ L s.heap m) (X : (Mine.hd.heap_1 w.params).In h₀) (hv : Atom v) (hu : A.units + 1 < cLine) (h : Q (.bool false) s) :
    wpAny (model PySem.Challenge.rw_oj0021_01.row.prog w) A (compareOp .NotEq v v) Q E s := by
  have X' := X.keeps F.keep
  rcases hv with rfl | rfl | ⟨i, t, rfl⟩
  · exact neB X' (plain44 X') hu h
  · exact neB X' (plain47 X') hu h
  · refine ne_int (s := s) ?_
    rw [bne_self_eq_false]
    exact h
theorem atom_eq {w : World} {A : Around} {h₀ : Heap} {L : Addr} {m : Str → Option Value} {s : Shared} {E : Value → Shared → Prop} {Q : Value → Shared → Prop} {v : Value}
    (F : Fr h₀ L s.heap m) (X : (Mine.hd.heap_1 w.params).In h₀) (hv : Atom v) (hu : A.units + 1 < cLine) (h : Q (.bool true) s) :
    wpAny (model PySem.Challenge.rw_oj0021_01.row.prog w) A (compareOp .Eq v v) Q E s := by
  have X' := X.keeps F.keep
  rcases hv with rfl | rfl | ⟨i, t, rfl⟩
  · exact eqB X' (plain44 X') (Nat.lt_of_succ_lt hu) h
  · exact eqB X' (plain47 X') (Nat.lt_of_succ_lt hu) h
  · refine eq_int (s := s) ?_
    rw [beq_self_eq_true]
    exact h
/-- datum is NIL -/
theorem atom_is {w : World} {A : Around} {h₀ : Heap} {L : Addr} {m : Str → Option Value} {s : Shared} {E : Value → Shared → Prop} {Q : Value → Shared → Prop} {v : Value}
    (F : Fr h₀ L s.heap m) (X : (Mine.hd.heap_1 w.params).In h₀) (hv : Atom v) (h : Q (.bool (decide (v = .ref 44))) s) :
    wpAny (model PySem.Challenge.rw_oj0021_01.row.prog w) A (compareOp .Is v (.ref 44)) Q E s := by
  revert X; k_fill; intro X
  rcases hv with rfl | rfl | ⟨i, t, rfl⟩
  · refine wpAny_is_ref_self ?_
    rw [decide_eq_true rfl] at h
    exact h
  · k_dflt (refine' kto_is ?a ?a2 ?b ?c ?_; (case a => kto_obj); (case a2 => kto_obj); (case b => decide); (case c => kto_not))
    rw [decide_eq_false (by decide)] at h
    exact h
  · refine wpAny_is_other rfl (fun e => nomatch e) ?_
    rw [decide_eq_false (fun e => nomatch e)] at h
    exact h
theorem cell_is {w : World} {A : Around} {h₀ : Heap} {L : Addr} {m : Str → Option Value} {s : Shared} {E : Value → Shared → Prop} {Q : Value → Shared → Prop} {a d : Addr} {news : List (Addr × Obj)}
    (F : Fr h₀ L s.heap m) (X : (Mine.hd.heap_1 w.params).In h₀) (N : News h₀ L s.heap news) (hm : (a, instObj 68 d) ∈ news) (h : Q (.bool false) s) :
    wpAny (model PySem.Challenge.rw_oj0021_01.row.prog w) A (compareOp .Is (.ref a) (.ref 44)) Q E s := by
  revert X; k_fill; intro X
  have hne : a ≠ 44 := by
    rintro rfl
    have h1 := (N _ hm).2.2
    have h2 : ∃ o, h₀.get? 44 = some o := ⟨_, X 44 _ rfl⟩
    obtain ⟨o, h2⟩ := h2
    rw [h1] at h2
    cases h2
  k_dflt (refine' kto_is (N _ hm).1 ?a2 hne ?c ?_; (case a2 => kto_obj); (case c => (intro e; cases e)))
  exact h
end Mine
namespace Mine
theorem heap44 {w : World} {h : Heap} (X : (Mine.hd.heap_1 w.params).In h) : h.get? 44 ≠ none := by
  have h2 : ∃ o, h.get? 44 = some o := ⟨_, X 44 _ rfl⟩
  obtain ⟨o, e⟩ := h2
  rw [e]
  exact fun z => nomatch z
theorem heap47 {w : World} {h : Heap} (X : (Mine.hd.heap_1 w.params).In h) : h.get? 47 ≠ none := by
  have h2 : ∃ o, h.get? 47 = some o := ⟨_, X 47 _ rfl⟩
  obtain ⟨o, e⟩ := h2
  rw [e]
  exact fun z => nomatch z
local macro_rules | `(tactic| k_mem) => `(tactic| assumption)
local macro_rules | `(tactic| k_all) => `(tactic| assumption)
local macro_rules | `(tactic| walk_at "eval Name") => `(tactic| (k_here; k_dflt (refine' ld ?k1 ?k2 ?_; (case k1 => k_asm); (case k2 => first | exact rfl | assumption); k_whole)))
set_option maxHeartbeats 8000000 in
theorem islist_ok {w : World} {p : Program} {loose : List Str} {mean : ExcName → Option Value} {mg mb : Str → Option Value}
    {dp un : Nat} {gd : Option (List Code)} {env : Env} {outer : List Env} {A₀ : Around} {base h₀ : Heap} {L : Addr} {m : Str → Option Value} {news : List (Addr × Obj)} {s : Shared}
    {Q E : Value → Shared → Prop} {v : Value} {b : Bool}
    (B : Below A₀ base outer h₀) (F : Fr h₀ L s.heap m) (X : (Mine.hd.heap_1 w.params).In h₀) (T : Top p loose mean mg mb h₀) (hf : env.frame = some L) (hke : env.scope.kind = .function)
    (N : News h₀ L s.heap news) (hv : (Atom v ∧ b = decide (v = .ref 44)) ∨ ∃ y z, Cell news v y z ∧ b = true) (hdp : dp < 480)
    (ret : ∀ h' tk', Fr h₀ L h' m → News h₀ L h' news → Q (.bool b) { s with heap := h', toks := tk' }) :
    wpAny (model PySem.Challenge.rw_oj0021_01.row.prog w) (kA dp un gd env outer) (call (.ref 228) [v]) Q E s := by
  revert X; k_fill; intro X
  refine wpAny_call ?_
  k_dflt (refine' code_def (binds := [(Str.ofString "datum", v)]) B F X N T ?kA ?kF ?kK ?k6 ?k7 ?k8 ?k9 ?kB ?_ ?c2 ?c3 ?c4 ?c5; (case kA => exact rfl); (case kF => exact hf); (case kK => exact hke); (case k6 => k_is); (case k7 => k_is); (case k8 => (simp only [recursionLimit]; omega)); (case k9 => exact BindsTo.of_eq rfl); (case c5 => decide); (case kB => exact locs rfl); (case c2 => exact rfl); (case c3 => exact rfl); (case c4 => exact rfl))
  intro g' L' h' FG' F' N' B' X' T'
  try dsimp only
  try k_fold
  rcases hv with ⟨rfl | rfl | ⟨i, t, rfl⟩, rfl⟩ | ⟨y, z, ⟨a, d, h1, h2, t1, t2, n, rfl, m1, m2, hy, hz⟩, rfl⟩
  · k_steps
    rename News h₀ L _ _ => N9
    exact ret _ _ (by assumption) N9
  · k_steps
    rename News h₀ L _ _ => N9
    exact ret _ _ (by assumption) N9
  · k_steps
    refine wpAny_is_other rfl (fun e => nomatch e) ?_
    k_steps
    rename News h₀ L _ _ => N9
    exact ret _ _ (by assumption) N9
  · k_steps
    rename News h₀ L _ _ => N9
    exact ret _ _ (by assumption) N9
end Mine
namespace Mine
def Joined {α : Type} (s : Shared) (g : Heap) (L : Addr) (m : Str → Option Value) (led : List (Addr × Obj)) (R : α → Prop) (v : α) (s₂ : Shared) : Prop :=
  ∃ h' tk, s₂ = { s with heap := h', toks := tk } ∧ R v ∧ Fr g L h' m ∧ News g L h' led
theorem Joined.intro {α : Type} {s : Shared} {g : Heap} {L : Addr} {m : Str → Option Value} {led : List (Addr × Obj)} {R : α → Prop} {v : α} {h' : Heap} {tk : Nat} (r : R v) (F : Fr g L h' m) (N : News g L h' led) :
    Joined s g L m led R v { s with heap := h', toks := tk } := ⟨h', tk, rfl, r, F, N⟩
theorem join_K {α : Type} {M : Model} {A : Around} {t : Sem α} {Q : α → Shared → Prop} {E : Value → Shared → Prop} {s : Shared} {g : Heap} {L : Addr} {m : Str → Option Value} {led : List (Addr × Obj)}
    (zF0 : Fr g L s.heap m) (zN0 : News g L s.heap led) (R : α → Prop) (h : wpAny M A t (Joined s g L m led R) E s)
    (k : ∀ v h' tk, R v → Fr g L h' m → News g L h' led → Q v { s with heap := h', toks := tk }) : wpAny M A t Q E s := by
  refine wpAny_mono h (fun v s₂ q => ?_) fun _ _ e => e
  obtain ⟨h', tk, rfl, r, F, N⟩ := q
  exact k v h' tk r F N
theorem slice_from (vs : List Value) (b : Nat) : (slicePick vs.toArray (some (b : Int)) none none).toList = vs.drop b := by
  have e : sliceBounds (some (b : Int)) none none vs.toArray.size = (((min b vs.toArray.size : Nat) : Int), ((vs.toArray.size : Nat) : Int), 1) := by
    simp only [sliceBounds, Option.getD_none, show (1 : Int) > 0 by decide, if_true, if_neg (show ¬ ((b : Int) < 0) by omega)]
    congr 1
    omega
  rw [kmk_pick_nat _ e]
  show (vs.drop (min b vs.toArray.size)).take (vs.toArray.size - min b vs.toArray.size) = _
  rw [List.size_toArray, kmk_drop_min, List.take_of_length_le (by rw [List.length_drop]; omega)]
theorem slice_upto (vs : List Value) (y : Nat) : (slicePick vs.toArray none (some (y : Int)) none).toList = vs.take y := by
  have e : sliceBounds none (some (y : Int)) none vs.toArray.size = (((0 : Nat) : Int), ((min y vs.toArray.size : Nat) : Int), 1) := by
    simp only [sliceBounds, Option.getD_none, show (1 : Int) > 0 by decide, if_true, if_neg (show ¬ ((y : Int) < 0) by omega)]
    congr 1
    congr 1
    omega
  rw [kmk_pick_nat _ e]
  show (vs.drop 0).take (min y vs.toArray.size - 0) = _
  rw [List.drop_zero, Nat.sub_zero, List.size_toArray, kmk_take_min]
theorem rep_len {α : Type} (l : List α) : ∀ n, (List.replicate n l).flatten.length = n * l.length
  | 0 => by simp
  | n + 1 => by rw [List.replicate_succ, List.flatten_cons, List.length_append, rep_len l n, Nat.succ_mul, Nat.add_comm]
local macro_rules | `(tactic| k_mem) => `(tactic| assumption)
local macro_rules | `(tactic| k_all) => `(tactic| assumption)
local macro_rules | `(tactic| walk_at "eval Name") => `(tactic| (k_here; k_dflt (refine' ld ?k1 ?k2 ?_; (case k1 => k_asm); (case k2 => first | exact rfl | assumption); k_whole)))
local macro_rules | `(tactic| walk_at "call ref") => `(tactic| (k_here; (with_reducible show wpAny _ _ (call (Value.ref _) _ _) _ _ _); refine stop ?_))
local macro_rules | `(tactic| walk_at "isTrue BoolOp") => `(tactic| (k_here; (with_reducible show wpAny _ _ (PySem.isTrue (Expr.BoolOp _ [_, _, _, _] _) _ _) _ _ _); refine stop ?_))
local macro_rules | `(tactic| walk_at "compareOp NotEq") => `(tactic| (k_here; (with_reducible show wpAny _ _ (compareOp CmpOp.NotEq _ _) _ _ _); (fail_if_success (with_reducible show wpAny _ _ (compareOp CmpOp.NotEq (Value.bool _) _) _ _ _)); (fail_if_success (with_reducible show wpAny _ _ (compareOp CmpOp.NotEq Value.none _) _ _ _)); refine stop ?_))
local macro_rules | `(tactic| walk_at "compareOp NotEq ref ref") => `(tactic| (k_here; (with_reducible show wpAny _ _ (compareOp CmpOp.NotEq (Value.ref _) (Value.ref _)) _ _ _); refine stop ?_))
local macro_rules | `(tactic| walk_at "subscriptTail Name Slice ref ref") => `(tactic| (k_here; (with_reducible show wpAny _ _ (subscriptTail _ (PySem.Expr.Slice _ _ none _) (Value.ref _) (Value.ref _)) _ _ _); refine stop ?_))
local macro_rules | `(tactic| walk_at "binaryOp Mult ref int") => `(tactic| (k_here; (with_reducible show wpAny _ _ (binaryOp Operator.Mult (Value.ref _) (Value.int _ _)) _ _ _); refine stop ?_))
local macro_rules | `(tactic| walk_at "binaryOp Add ref ref") => `(tactic| (k_here; (with_reducible show wpAny _ _ (binaryOp Operator.Add (Value.ref _) (Value.ref _)) _ _ _); refine stop ?_))
local macro_rules | `(tactic| k_handed) => `(tactic| assumption)
local macro_rules | `(tactic| walk_at "compareOp Eq int int") => `(tactic| (k_here; (with_reducible show wpAny _ _ (compareOp CmpOp.Eq (Value.int _ _) (Value.int _ _)) _ _ _); refine stop ?_))
local macro_rules | `(tactic| walk_at "compareOp Eq ref ref") => `(tactic| (k_here; (with_reducible show wpAny _ _ (compareOp CmpOp.Eq (Value.ref _) (Value.ref _)) _ _ _); refine stop ?_))
local macro_rules | `(tactic| walk_at "call builtin:len") => `(tactic| (k_here; (with_reducible show wpAny _ _ (call (Value.builtin "len") [Value.ref _]) _ _ _); k_dflt (refine' m_len ?N ?m ?f ?_; (case N => k_asm); (case m => k_mem); (case f => (simp only [List.size_toArray]; omega)); intro tL tkL)))
local macro_rules | `(tactic| walk_at "subscriptTail") => `(tactic| (k_here; (with_reducible show wpAny _ _ (subscriptTail _ _ (Value.ref _) (Value.int _ _)) _ _ _); k_dflt (refine' m_item ?N ?m ?a ?b ?x ?_; (case N => k_asm); (case m => k_mem); (case a => omega); (case b => omega); (case x => assumption))))
local macro_rules | `(tactic| walk_at "compareOp Is") => `(tactic| (k_here; (with_reducible show wpAny _ _ (compareOp CmpOp.Is _ _) _ _ _); refine stop ?_))
local macro_rules | `(tactic| walk_at "eval IfExp") => `(tactic| (k_here; (with_reducible show wpAny _ _ (eval (Expr.IfExp _ _ _ _) _) _ _ _); refine stop ?_))
local macro_rules | `(tactic| walk_at "exec While") => `(tactic| (k_here; (with_reducible show wpAny _ _ (exec (Stmt.While _ _ _ _) _) _ _ _); refine stop ?_))
set_option maxHeartbeats 8000000 in
theorem sright_ok {w : World} {p : Program} {loose : List Str} {mean : ExcName → Option Value} {mg mb : Str → Option Value}
    {dp un : Nat} {gd : Option (List Code)} {env : Env} {outer : List Env} {A₀ : Around} {base h₀ : Heap} {L : Addr} {m : Str → Option Value} {news : List (Addr × Obj)} {s : Shared}
    {Q E : Value → Shared → Prop} {pa ca : Addr} {o : Obj} {k : Int}
    (B : Below A₀ base outer h₀) (F : Fr h₀ L s.heap m) (X : (Mine.hd.heap_1 w.params).In h₀) (T : Top p loose mean mg mb h₀) (hf : env.frame = some L) (hke : env.scope.kind = .function)
    (N : News h₀ L s.heap ((pa, o) :: news)) (P : PotObj ca k o) (C : PotCells ca news) (hsep : ∀ q ∈ news, q.1 ≠ pa)
    (hk1 : k < 900) (hdp : dp < 470) (hun : un < 4000)
    (ret : ∀ o' h' tk', PotObj ca (k + 12) o' → Fr h₀ L h' m → News h₀ L h' ((pa, o') :: news) → Q (.bool true) { s with heap := h', toks := tk' }) :
    wpAny (model PySem.Challenge.rw_oj0021_01.row.prog w) (kA dp un gd env outer) (call (.ref 290) [.ref pa]) Q E s := by
  revert X; k_fill; intro X
  refine wpAny_call ?_
  k_dflt (refine' code_def (binds := [(Str.ofString "pot", .ref pa)]) B F X N T ?kA ?kF ?kK ?k6 ?k7 ?k8 ?k9 ?kB ?_ ?c2 ?c3 ?c4 ?c5; (case kA => exact rfl); (case kF => exact hf); (case kK => exact hke); (case k6 => k_is); (case k7 => k_is); (case k8 => (simp only [recursionLimit]; omega)); (case k9 => exact BindsTo.of_eq rfl); (case c5 => decide); (case kB => exact locs rfl); (case c2 => exact rfl); (case c3 => exact rfl); (case c4 => exact rfl))
  intro g' L' h' FG' F' N' B' X' T'
  try dsimp only
  try k_fold
  k_steps
  refine unstop ?_
  k_dflt (refine' chain_ok B' ?F X' T' ?a ?b ?N P C hsep hk1 ?d ?u ?_; (case F => k_asm); (case a => rfl); (case b => rfl); (case N => k_asm); (case d => (dsimp only [kA, Around.deeper]; omega)); (case u => (dsimp only [kA, Around.deeper]; omega)))
  intro ra cv ev back tb la vs c o' nx h1 tk1 hP1 hA hlen hra hla hor hpa hsub F1 N1
  have PD : PathD nx cv vs ev back := by
    rcases hor with ⟨rfl, hev, hch⟩ | ⟨b, rfl, hb, rfl, hR⟩
    · exact chain_path N1 (heap44 X') (heap47 X') hlen hev hch
    · exact ring_path hlen hb hR
  clear hor N' F'
  obtain ⟨Pf, Vf, K, rv, rfl, hK, hc, hn, he, hend⟩ := PD
  k_steps
  refine unstop ?_
  k_dflt (refine' split_ok (P := Pf) (V := Vf) (K := K) (rv := rv) B' ?F X' T' ?a ?b ?N ?hk hc hn he ?c ?_; (case F => k_asm); (case a => rfl); (case b => rfl); (case N => k_asm); (case hk => omega); (case c => (dsimp only [kA, Around.deeper]; omega)))
  intro rs ts cs h2 tk2 hlt2 hlt3 F2 N2
  rcases hend with ⟨rfl, hev, rfl, hmap, rfl, hPK⟩ | ⟨b, rfl, hb, rfl, rfl, hKle, hmap⟩
  · rw [hmap] at N2
    k_steps
    refine unstop ?_
    rename Fr g' L' _ _ => F3
    rename News g' L' _ _ => N3
    refine join_K F3 N3 (fun v => (rv = .ref 44 ∧ v = .ref la) ∨ (rv ≠ .ref 44 ∧ v = .none)) ?_ ?_
    · refine IfExp_ ?_
      k_steps
      refine unstop ?_
      refine atom_is F3 X' hev ?_
      by_cases h44 : rv = .ref 44
      · rw [decide_eq_true h44]
        k_steps
        exact Joined.intro (.inl ⟨h44, rfl⟩) F3 N3
      · rw [decide_eq_false h44]
        k_steps
        exact Joined.intro (.inr ⟨h44, rfl⟩) F3 N3
    intro dv h4 tk4 hdv F4 N4
    clear F3 N3
    dsimp only
    k_steps
    refine unstop ?_
    rename Fr g' L' _ _ => F5
    rename News g' L' _ _ => N5
    refine join_K F5 N5 (fun b => b = false) ?_ ?_
    · refine isTrue_or ?_
      k_steps
      refine unstop ?_
      k_dflt (refine' m_ne_same N5 ?m ?b ?u ?_; (case m => exact .tail _ (.head _)); (case b => exact .tail _ (.tail _ hla)); (case u => (dsimp only [kA, Around.deeper, cLine]; omega)))
      k_steps
      refine unstop ?_
      k_dflt (refine' atom_ne F5 X' hev ?u ?_; (case u => (dsimp only [kA, Around.deeper, cLine]; omega)))
      k_steps
      refine unstop ?_
      k_dflt (refine' items_ok (P := Pf) (V := Vf) (K := vs.length) (rv := rv) B' ?F X' T' ?a ?b ?N ?hk ?hc hn he ?c ?_; (case F => k_asm); (case a => rfl); (case b => rfl); (case N => k_asm); (case hk => omega); (case hc => exact fun k hk => (hc k hk).mono fun q hq => .tail _ (.tail _ hq)); (case c => (dsimp only [kA, Around.deeper]; omega)))
      intro r6 t6 c6 h6 tk6 hlt6 hr6 F6 N6
      rw [hmap] at N6
      k_steps
      refine unstop ?_
      refine join_K F6 N6 (fun v => v = .bool false) ?_ ?_
      · rcases hr6 with ⟨h44, rfl⟩ | ⟨h44, rfl⟩
        · rcases hdv with ⟨_, rfl⟩ | ⟨hx, _⟩
          · k_dflt (refine' m_ne_same N6 ?m ?b ?u ?_; (case m => exact .head _); (case b => exact .tail _ (.tail _ (.tail _ hla))); (case u => (dsimp only [kA, Around.deeper, cLine]; omega)))
            exact Joined.intro rfl F6 N6
          · exact absurd h44 hx
        · rcases hdv with ⟨hx, _⟩ | ⟨_, rfl⟩
          · exact absurd hx h44
          · k_steps
            exact Joined.intro rfl F6 N6
      rintro _ h7 tk7 rfl F7 N7
      clear F6 hr6
      dsimp only
      k_steps
      refine unstop ?_
      obtain ⟨bb, hbb, hisl⟩ : ∃ bb : Bool, (bb = true ↔ (vs ≠ [] ∨ rv = .ref 44)) ∧ ((Atom (Pf 0) ∧ bb = decide (Pf 0 = .ref 44)) ∨ ∃ y z, Cell nx (Pf 0) y z ∧ bb = true) := by
        by_cases hv0 : vs = []
        · have h0 : Pf 0 = rv := by rw [← hPK, hv0]; rfl
          refine ⟨decide (Pf 0 = .ref 44), ?_, .inl ⟨h0 ▸ hev, rfl⟩⟩
          rw [decide_eq_true_iff, h0]
          exact ⟨.inr, fun h => h.resolve_left fun z => z hv0⟩
        · exact ⟨true, ⟨fun _ => .inl hv0, fun _ => rfl⟩, .inr ⟨_, _, hc 0 (List.length_pos_iff.mpr hv0), rfl⟩⟩
      k_dflt (refine' islist_ok (v := Pf 0) (b := bb) B' ?F X' T' ?a ?b ?N ?hv ?c ?_; (case F => k_asm); (case a => rfl); (case b => rfl); (case N => k_asm); (case hv => exact hisl.imp id fun ⟨y, z, h, e⟩ => ⟨y, z, h.mono fun q hq => .tail _ (.tail _ (.tail _ hq)), e⟩); (case c => (dsimp only [kA, Around.deeper]; omega)))
      intro h8 tk8 F8 N8
      k_steps
      refine unstop ?_
      refine atom_is F8 X' hev ?_
      by_cases h44 : rv = .ref 44
      · obtain rfl := hbb.mpr (.inr h44)
        rw [decide_eq_true h44]
        k_steps
        exact Joined.intro rfl F8 fun q hq => N8 q (.tail _ hq)
      · rw [decide_eq_false h44]
        k_steps
        refine unstop ?_
        rename Fr g' L' _ _ => F9
        rename News g' L' _ _ => N9
        by_cases hv0 : vs = []
        · have hbf : bb = false := by
            cases hb : bb with
            | false => rfl
            | true => exact absurd (hbb.mp hb) (fun z => z.elim (fun q => q hv0) h44)
          subst hbf
          have e0 : (([] : List Value).toArray) = vs.toArray := by rw [hv0]
          rw [e0] at N9
          k_dflt (refine' m_ne_same N9 ?m ?b ?u ?_; (case m => exact .tail _ (.tail _ (.tail _ (.tail _ hla)))); (case b => exact .head _); (case u => (dsimp only [kA, Around.deeper, cLine]; omega)))
          k_steps
          exact Joined.intro rfl F9 fun q hq => N9 q (.tail _ (.tail _ hq))
        · obtain rfl := hbb.mpr (.inl hv0)
          have hv1 : 0 < vs.length := List.length_pos_iff.mpr hv0
          k_dflt (refine' m_ne_len N9 ?m ?b ?n ?u ?_; (case m => exact .tail _ (.tail _ (.tail _ (.tail _ hla)))); (case b => exact .head _); (case n => (simp only [List.size_toArray, List.length_nil, Array.size_empty]; omega)); (case u => (dsimp only [kA, Around.deeper, cLine]; omega)))
          k_steps
          exact Joined.intro rfl F9 fun q hq => N9 q (.tail _ (.tail _ hq))
    rintro _ h5 tk5 rfl F6 N6
    clear F5 N5 hdv
    dsimp only
    k_steps
    refine unstop ?_
    k_dflt (refine' listof_ok (vs := vs) (tv := rv) B' ?F X' T' ?a ?b ?N ?hl ?hn ?hv hev ?d ?_; (case F => k_asm); (case a => rfl); (case b => rfl); (case N => k_asm); (case hl => exact .tail _ (.head _)); (case hn => omega); (case hv => exact hA.mem); (case d => (dsimp only [kA, Around.deeper]; omega)))
    intro rC tlC hC tkC hltC hchC FC NC
    k_steps
    refine unstop ?_
    rename Fr g' L' _ _ => F7
    rename News g' L' _ _ => N7
    have N8 : News g' L' _ (tlC ++ nx) := fun q hq => N7 q (.tail _ ((List.mem_append.mp hq).elim (List.mem_append_left _) fun h => List.mem_append_right _ (.tail _ (.tail _ h))))
    have hch : Chain (tlC ++ nx) rC vs rv := hchC.mono fun q hq => List.mem_append_left _ hq
    have hla' : (la, W.listOf vs.toArray c) ∈ tlC ++ nx := List.mem_append_right _ hla
    have hfin : ∀ q ∈ (pa, o') :: news, q ∈ tlC ++ nx := fun q hq => List.mem_append_right _ (by
      rcases List.mem_cons.mp hq with h | h
      · exact h ▸ hpa
      · exact hsub q h)
    clear N7 hchC
    refine While_inv2 (fun n m1 nx1 => ∃ kk x tm, kk + n = vs.length ∧ m1 (Str.ofString "anew") = some x ∧ m1 (Str.ofString "many") = some (.int ((kk : Nat) : Int) tm) ∧ m1 (Str.ofString "things") = some (.ref la) ∧ m1 (Str.ofString "end") = some rv ∧ Chain (tlC ++ nx) x (vs.drop kk) rv ∧ nx1 = tlC ++ nx) (n₀ := vs.length) F7 N8 ?_ ?_
    · exact ⟨0, rC, _, by omega, rfl, rfl, rfl, rfl, hch, rfl⟩
    · clear F7 N8 hch
      rintro n m1 nx1 h9 tk9 F9 N9 ⟨kk, x, tm, hkn, han, hma, hth, hen, hcx, rfl⟩
      by_cases hlast : kk = vs.length
      · rw [hlast, List.drop_length] at hcx
        have hx : x = rv := hcx
        subst hx
        clear hcx hn he hPK
        have hkl : (((kk : Nat) : Int) == (vs.toArray.size : Int)) = true := by simp [hlast]
        rcases hev with rfl | rfl | ⟨i9, t9, rfl⟩
        all_goals k_steps
        all_goals refine unstop ?_
        · refine atom_eq F9 X' (.inl rfl) (by dsimp only [kA, Around.deeper, cLine]; omega) ?_
          k_steps
          refine unstop ?_
          refine eq_int ?_
          rw [hkl]
          k_steps
          rename News h₀ L _ _ => Nz
          exact ret _ _ _ hP1 (by assumption) fun q hq => Nz q (hfin q hq)
        · refine atom_eq F9 X' (.inr (.inl rfl)) (by dsimp only [kA, Around.deeper, cLine]; omega) ?_
          k_steps
          refine unstop ?_
          refine eq_int ?_
          rw [hkl]
          k_steps
          rename News h₀ L _ _ => Nz
          exact ret _ _ _ hP1 (by assumption) fun q hq => Nz q (hfin q hq)
        · refine atom_eq F9 X' (.inr (.inr ⟨_, _, rfl⟩)) (by dsimp only [kA, Around.deeper, cLine]; omega) ?_
          k_steps
          refine unstop ?_
          refine eq_int ?_
          rw [hkl]
          k_steps
          rename News h₀ L _ _ => Nz
          exact ret _ _ _ hP1 (by assumption) fun q hq => Nz q (hfin q hq)
      · have hlt : kk < vs.length := by omega
        rw [List.drop_eq_getElem_cons hlt] at hcx
        obtain ⟨y, ⟨a, d, b1, b2, u1, u2, dn, rfl, mx, md, hv1, hv2⟩, hcy⟩ := hcx
        have hx0 : vs.toArray[((kk : Nat) : Int).toNat]? = some vs[kk] := by simp [hlt]
        k_steps
        refine unstop ?_
        refine atom_ne F9 X' (hA.mem _ (List.getElem_mem hlt)) (by dsimp only [kA, Around.deeper, cLine]; omega) ?_
        k_steps
        dsimp only [WhileStep2]
        rename Fr g' L' _ _ => Fz
        rename News g' L' _ _ => Nz
        exact ⟨_, _, _, _, vs.length - (kk + 1), rfl, Fz, fun q hq => Nz q (.tail _ hq), by omega, kk + 1, y, _, by omega, rfl, rfl, hth, hen, hcy, rfl⟩
  · have hfl : ((rdue vs b).take K).length = K := by
      have h := congrArg List.length hmap
      rw [List.length_map, List.length_range] at h
      exact h.symm
    obtain ⟨RL, hRL, hRl⟩ : ∃ r, vs.drop b = r ∧ r.length ≤ 9 := ⟨_, rfl, by rw [List.length_drop]; omega⟩
    obtain ⟨ML, hML, hMl⟩ : ∃ r, (List.replicate 20 RL).flatten = r ∧ r.length = 20 * RL.length := ⟨_, rfl, rep_len _ _⟩
    obtain ⟨DL, hDL, hDl⟩ : ∃ r, vs ++ ML = r ∧ r.length = vs.length + 20 * RL.length := ⟨_, rfl, by rw [List.length_append, hMl]⟩
    have hrd : rdue vs b = DL := by rw [rdue, hRL, hML, hDL]
    rw [hrd] at hfl hmap
    obtain ⟨FL, hFL, hFl⟩ : ∃ r, DL.take K = r ∧ r.length = K := ⟨_, rfl, hfl⟩
    have hKD : K ≤ DL.length := by
      rw [List.length_take] at hfl
      omega
    rw [hFL] at hmap
    rw [hmap] at N2
    clear hrd hfl
    have hK0 : 0 < K := by omega
    k_steps
    refine unstop ?_
    k_dflt (refine' kmk_slice_lit (zs := RL) ?zF ?zN ?zl ?zp ?zq ?ze ?_ ?zs ?zt ?zz; (case zF => k_asm); (case zN => k_asm); (case zl => exact isList_of (by k_asm) (.tail _ (.tail _ hla))); (case zp => kmk_part); (case zq => kmk_part); (case ze => exact (slice_from _ _).trans hRL); (case zs => with_unfolding_all rfl); (case zt => kmk_pure); (case zz => (simp only [List.size_toArray, sizeLine_eq]; omega)))
    intro dR hR FR NR lR
    k_steps
    refine unstop ?_
    rename Fr g' L' _ _ => F3
    rename News g' L' _ _ => N3
    k_dflt (refine' KMa.mul (ws := ML) F3 N3 ?zl ?zlo ?zhi ?zsz ?ze ?_; (case zl => exact isList_of N3 (.head _)); (case zlo => decide); (case zhi => decide); (case zsz => (simp only [Int.reduceToNat]; omega)); (case ze => exact hML))
    intro dM hM FM NM lM
    clear F3 N3
    k_steps
    refine unstop ?_
    k_dflt (refine' kmk_add_lit (zs := DL) FM NM ?zl ?zm ?ze ?_ ?zz; (case zl => exact isList_of NM (.tail _ (.tail _ (.tail _ (.tail _ hla))))); (case zm => exact isList_of NM (.head _)); (case ze => exact hDL); (case zz => (simp only [sizeLine_eq]; omega)))
    intro dD hD FD ND lD
    clear FM NM
    k_steps
    refine unstop ?_
    k_dflt (refine' items_ok (P := Pf) (V := Vf) (K := K) (rv := .none) B' ?zF X' T' ?za ?zb ?zN ?zk ?zc hn he ?zd ?_; (case zF => k_asm); (case za => rfl); (case zb => rfl); (case zN => k_asm); (case zk => omega); (case zc => exact fun k hk => (hc k hk).mono fun q hq => .tail _ (.tail _ (.tail _ (.tail _ (.tail _ hq))))); (case zd => (dsimp only [kA, Around.deeper]; omega)))
    intro r6 t6 c6 h6 tk6 hlt6 hr6 F6 N6
    have hr6' : r6 = .none := hr6.elim (fun h => nomatch h.1) And.right
    subst hr6'
    k_steps
    refine unstop ?_
    k_dflt (refine' islist_ok (v := Pf 0) (b := true) B' ?zF X' T' ?za ?zb ?zN ?zv ?zc ?_; (case zF => k_asm); (case za => rfl); (case zb => rfl); (case zN => k_asm); (case zv => exact .inr ⟨_, _, (hc 0 hK0).mono fun q hq => .tail _ (.tail _ (.tail _ (.tail _ (.tail _ (.tail _ hq))))), rfl⟩); (case zc => (dsimp only [kA, Around.deeper]; omega)))
    intro h8 tk8 F8 N8
    clear F6 N6
    k_steps
    refine unstop ?_
    k_dflt (refine' kmk_slice_lit (zs := FL) ?zF ?zN ?zl ?zp ?zq ?ze ?_ ?zs ?zt ?zz; (case zF => k_asm); (case zN => k_asm); (case zl => exact isList_of (by k_asm) (.tail _ (.head _))); (case zp => kmk_part); (case zq => kmk_part); (case ze => exact (slice_upto _ _).trans (by rw [List.size_toArray, hFl, hFL])); (case zs => with_unfolding_all rfl); (case zt => kmk_pure); (case zz => (simp only [List.size_toArray, sizeLine_eq]; omega)))
    intro dS hS FS NS lS
    k_steps
    refine unstop ?_
    k_dflt (refine' m_eq_same NS ?zm ?zb ?zu ?_; (case zm => exact .tail _ (.tail _ (.tail _ (.tail _ (.tail _ (.tail _ (.head _))))))); (case zb => exact .head _); (case zu => (dsimp only [kA, Around.deeper, cLine]; omega)))
    k_steps
    rename News h₀ L _ _ => Nz
    exact ret _ _ _ hP1 (by assumption) fun q hq => Nz q (.tail _ (.tail _ (.tail _ (.tail _ (.tail _ (.tail _ (.tail _ (by
      rcases List.mem_cons.mp hq with h | h
      · exact h ▸ hpa
      · exact hsub q h))))))))
end Mine
namespace Mine
def okc (c : Int) : Bool := decide ((0 ≤ c ∧ c < 55296) ∨ (57344 ≤ c ∧ c < 1114112))
def sgn (c : Int) : Str := if okc c = true then ⟨#[c.toNat]⟩ else Str.ofString "?"
theorem okc_t {c : Int} (h : (0 ≤ c ∧ c < 55296) ∨ (57344 ≤ c ∧ c < 1114112)) : okc c = true := decide_eq_true h
theorem okc_f {c : Int} (h : ¬ ((0 ≤ c ∧ c < 55296) ∨ (57344 ≤ c ∧ c < 1114112))) : okc c = false := decide_eq_false h
theorem sgn_t {c : Int} (h : okc c = true) : sgn c = ⟨#[c.toNat]⟩ := if_pos h
theorem sgn_f {c : Int} (h : okc c = false) : sgn c = Str.ofString "?" := if_neg (by rw [h]; decide)
theorem sgn_len (c : Int) : (sgn c).length = 1 := by
  unfold sgn
  split <;> rfl
theorem sum_sgn (cs : List Int) : ((cs.map sgn).map (·.length)).sum = cs.length := by
  induction cs with
  | nil => rfl
  | cons c r ih => simp only [List.map_cons, List.sum_cons, List.length_cons, ih, sgn_len]; omega
local macro_rules | `(tactic| k_mem) => `(tactic| assumption)
local macro_rules | `(tactic| k_all) => `(tactic| assumption)
local macro_rules | `(tactic| walk_at "CompSrc") => `(tactic| (k_here; refine stop ?_))
local macro_rules | `(tactic| walk_at "CompEnd") => `(tactic| (k_here; refine stop ?_))
local macro_rules | `(tactic| walk_at "call builtin:str.join") => `(tactic| (k_here; refine stop ?_))
local macro_rules | `(tactic| walk_at "call builtin:chr") => `(tactic| (k_here; (with_reducible show wpAny _ _ (call (Value.builtin "chr") [Value.int _ _]) _ _ _); k_dflt (refine' chr_of_range ?a ?b ?_; (case a => omega); (case b => omega))))
set_option maxHeartbeats 8000000 in
theorem told_ok {w : World} {p : Program} {loose : List Str} {mean : ExcName → Option Value} {mg mb : Str → Option Value}
    {dp un : Nat} {gd : Option (List Code)} {env : Env} {outer : List Env} {A₀ : Around} {base h₀ : Heap} {L : Addr} {m : Str → Option Value} {news : List (Addr × Obj)} {s : Shared}
    {Q E : Value → Shared → Prop} {la : Addr} {vs : List Value} {cs : List Int} {n : Nat}
    (B : Below A₀ base outer h₀) (F : Fr h₀ L s.heap m) (X : (Mine.hd.heap_1 w.params).In h₀) (T : Top p loose mean mg mb h₀) (hf : env.frame = some L) (hke : env.scope.kind = .function)
    (N : News h₀ L s.heap news) (hl : (la, W.listOf vs.toArray n) ∈ news) (I : IntsAre vs cs) (hlen : cs.length ≤ 100) (hdp : dp < 480)
    (ret : ∀ t h' tk', Fr h₀ L h' m → News h₀ L h' news → Q (.str (Txt.join (Str.ofString "") (cs.map sgn)) t) { s with heap := h', toks := tk' }) :
    wpAny (model PySem.Challenge.rw_oj0021_01.row.prog w) (kA dp un gd env outer) (call (.ref 259) [.ref la]) Q E s := by
  revert X; k_fill; intro X
  refine wpAny_call ?_
  k_dflt (refine' code_def (binds := [(Str.ofString "codes", .ref la)]) B F X N T ?kA ?kF ?kK ?k6 ?k7 ?k8 ?k9 ?kB ?_ ?c2 ?c3 ?c4 ?c5; (case kA => exact rfl); (case kF => exact hf); (case kK => exact hke); (case k6 => k_is); (case k7 => k_is); (case k8 => (simp only [recursionLimit]; omega)); (case k9 => exact BindsTo.of_eq rfl); (case c5 => decide); (case kB => exact locs rfl); (case c2 => exact rfl); (case c3 => exact rfl); (case c4 => exact rfl))
  intro g' L' h' FG' F' N' B' X' T'
  try dsimp only
  try k_fold
  k_steps
  refine unstop ?_
  have hsz : vs.toArray.size = cs.length := by rw [List.size_toArray, I.length]
  refine LCg.CompSrc.ledger rfl (by assumption) (by assumption) hl (by rw [hsz, sizeLine_eq]; omega) fun g => ?_
  rw [hsz]
  refine' (?_ : ∀ (k i : Nat) (ys : List Value), i + k = cs.length → StrsAre ys ((cs.take i).map sgn) → LCg.CompRest _ _ _ _ _ _ _ _ _ _ _ _ _ _ _ k i ys news) cs.length 0 [] (by omega) .nil
  intro k
  induction k with
  | zero =>
    intro i ys hi hy
    refine LCg.CompRest.zero ?_
    intro D hD tkD F3 N3 off3
    have hic : i = cs.length := by omega
    rw [hic, List.take_length] at hy
    dsimp only
    k_steps
    refine unstop ?_
    refine join_list (ys := cs.map sgn) (isList_of N3 (.head _)) (by simpa using hy) (by rw [sum_sgn, List.length_map]; show _ + cs.length * 0 ≤ _; omega) fun t' k' => ?_
    k_steps
    rename News h₀ L _ _ => Nz
    exact ret _ _ _ (by assumption) fun q hq => Nz q (.tail _ hq)
  | succ k ih =>
    intro i ys hi hy
    refine LCg.CompRest.succ ?_
    intro v I5 oI C5 oC D5 m2 h5 tk5 E5 hv hC hx F5 N5 off5 ne5
    obtain ⟨c, t, rfl, hc⟩ := I.at i v (by simpa using hv)
    have step : ∀ t', StrsAre (ys ++ [.str (sgn c) t']) ((cs.take (i + 1)).map sgn) := fun t' => by
      rw [List.take_add_one, hc]
      simpa using kct_snoc hy
    k_steps
    all_goals refine unstop ?_
    all_goals refine LCg.CompEnd.intro (by assumption) (by assumption) news (fun q hq => hq) off5 (.inr ⟨_, hl, rfl, _, rfl⟩) ?_
    all_goals refine ih (i + 1) _ (by omega) ?_
    all_goals first
      | (have e := okc_t (c := c) (by omega); simp only [sgn_t e] at step; exact step _)
      | (have e := okc_f (c := c) (by omega); simp only [sgn_f e] at step; exact step _)
end Mine
namespace Mine
open PyProof.Rows.LCg
section
variable {prog : Program} {w : World} {A : Around} {E : Value → Shared → Prop} {s : Shared} {h₀ : Heap} {L : Addr} {m : Str → Option Value} {env : Env}
/-- the source of a comprehension over a text's signs -/
def SSrc (prog : Program) (w : World) (A : Around) (h₀ : Heap) (L : Addr) (m : Str → Option Value) (env : Env) (elt : Expr) (xa : Str) (scope : Scope) (cl : List (Str × Addr)) (Fin : Shared → List Value → List (Addr × Obj) → Prop) (xv : Value) (s₁ : Shared) : Prop :=
  ∃ x t news, xv = .str x t ∧ A.handled = none ∧ Fr h₀ L s₁.heap m ∧ News h₀ L s₁.heap news ∧ x.cps.size ≤ sizeLine ∧
    ∀ g, CompRest prog w A h₀ L m env elt xa scope cl { s₁ with heap := g } (fun _ => True) (SignAt x) (Fin { s₁ with heap := g }) x.cps.size 0 [] news
theorem ListComp_S {elt iter : Expr} {xa : Str} {pa : Pos} {scope : Scope} {cl : List (Str × Addr)} {pos : Pos} {Q : Value → Shared → Prop} (zF0 : Fr h₀ L s.heap m)
    (hclos : closureFor scope env = pure cl) (hcell : ∀ y ∈ scope.names, y.2 ≠ .cell) (hkind : scope.kind = .function)
    (hnames : ∀ y ∈ scope.names, y.2 = .local → scope.names.lookup y.1 = some .local) (hx : scope.names.lookup xa = some .local)
    (h : wpAny (model prog w) A (eval iter env) (SSrc prog w A h₀ L m env elt xa scope cl (fun s₂ => FinE h₀ L m s₂ Q)) E s)
    (hs : ∀ x, foldedSetIterable iter env x = pure x := by intro _; rfl) :
    wpAny (model prog w) A (eval (.ListComp elt [⟨.Name xa pa, iter, [], 0⟩] scope pos) env) Q E s := by
  rw [eval_ListComp]
  refine wpAny_comprehension_free (use := none) rfl hs hclos hkind hnames (wpAny_mono h (fun xv s₁ h₁ => ?_) fun _ _ e => e)
  obtain ⟨x, t, news, rfl, hh, F, N, hsz, R⟩ := h₁
  have go : ∀ (o : Obj) (ty : String), (Walks prog w A s₁.heap.objs.size [s₁.heap.objs.size] [s₁.heap.objs.size] x.cps.size (SignAt x) (fun i h => h.IsStrIter s₁.heap.objs.size ty x t i)) →
      (s₁.heap.push o).IsStrIter s₁.heap.objs.size ty x t 0 →
      wpAny (model prog w) A (newList []) (fun acc s₃ => wpAny (model prog w) A (newFunctionEnv scope env.globals cl [] env.qual none .none (some env)) (fun cenv s₄ =>
        codeAny (model prog w) A (.compStart (.ListComp elt [⟨.Name xa pa, iter, [], 0⟩] scope pos) 0 (.ref s₁.heap.objs.size) acc { cenv with scope := relabel scope env }) (compPost (model prog w) A E none Q acc cenv.locals) s₄) E s₃) E { s₁ with heap := s₁.heap.push o } := by
    intro o ty W hst
    have up : ∀ b o', s₁.heap.get? b = some o' → (s₁.heap.push o).get? b = some o' := fun b o' e => Heap.get?_push_of_some _ e
    refine block_U (S := fun _ => True) W hsz (fun i h st => by obtain ⟨o, e, _⟩ := st; exact ⟨o, e⟩) (fun i h h' o nw st e e' _ _ _ => by obtain ⟨o', q, r⟩ := st; rw [e] at q; cases q; exact ⟨o, e', r⟩) hcell hkind hx hst (fun b hb => ?_)
      (F.keeps up) (N.grown up) (Nat.ne_of_lt F.ns.lt) (next_is_new F) (fun p hp => Nat.ne_of_lt (Heap.lt_size (N p hp).1)) trivial (R _) ?_
    · rw [List.mem_singleton.mp hb]
      show s₁.heap.objs.size < (s₁.heap.push _).objs.size
      rw [Heap.size_push]
      exact Nat.lt_succ_self _
    · intro D C h tk m' ys news' F' N' o1 hn hC₀ hD₀ hCL hDL hCD offC fin
      refine ⟨m', hn, fun h'' hs'' => fin D h'' tk (F'.change hs'' hCL hC₀) (fun p hp => ?_) o1⟩
      refine ⟨hs''.extBut _ _ ?_ (N' p hp).1, (N' p hp).2⟩
      rcases List.mem_cons.mp hp with rfl | hp
      · exact Ne.symm hCD
      · exact offC p hp
  cases ha : x.cps.all (· < 128)
  · exact wpAny_pyIter_wide ha (go _ _ (Walks.strWide hh _ x t) ⟨_, Heap.get?_push_size _ rfl, rfl, rfl⟩)
  · exact wpAny_pyIter_ascii ha (go _ _ (Walks.strAscii hh _ x t) ⟨_, Heap.get?_push_size _ rfl, rfl, rfl⟩)
def SEnd (s₁ : Shared) (h : Heap) (c : Nat) (y : Value) (s₂ : Shared) : Prop := (∃ tk', s₂ = { s₁ with heap := h, toks := tk' }) ∧ ∃ t, y = .int (c : Nat) t
theorem SEnd.intro {s₁ : Shared} {h : Heap} {c : Nat} {t : Tok} {tk : Nat} : SEnd s₁ h c (.int (c : Nat) t) { s₁ with heap := h, toks := tk } := ⟨⟨tk, rfl⟩, t, rfl⟩
/-- a text's signs, each turned into its code -/
theorem signs_rest {elt : Expr} {xa : Str} {scope : Scope} {cl : List (Str × Addr)} {x : Str} {news : List (Addr × Obj)} {Fin : List Value → List (Addr × Obj) → Prop} {s₁ : Shared}
    (turn : ∀ c u C oC m₂ h tk (E' : Value → Shared → Prop), NsObj oC m₂ → m₂ xa = some (.str ⟨#[c]⟩ u) → Fr h₀ L h m → News h₀ L h ((C, oC) :: news) →
      wpAny (model prog w) A (eval elt (compEnvC scope cl C env)) (SEnd s₁ h c) E' { s₁ with heap := h, toks := tk })
    (fin : ∀ ys, IntsAre ys (x.cps.toList.map Int.ofNat) → Fin ys news) :
    CompRest prog w A h₀ L m env elt xa scope cl s₁ (fun _ => True) (SignAt x) Fin x.cps.size 0 [] news := by
  refine' (?_ : ∀ (k i : Nat) (ys : List Value), i + k = x.cps.size → IntsAre ys ((x.cps.toList.take i).map Int.ofNat) → CompRest prog w A h₀ L m env elt xa scope cl s₁ (fun _ => True) (SignAt x) Fin k i ys news) x.cps.size 0 [] (by omega) .nil
  intro k
  induction k with
  | zero =>
    intro i ys hi hy
    refine CompRest.zero (fin ys ?_)
    rw [List.take_of_length_le (by rw [Array.length_toList]; omega)] at hy
    exact hy
  | succ k ih =>
    intro i ys hi hy
    refine CompRest.succ ?_
    rintro v I oI C oC D m₂ h tk E' ⟨c, u, hc, rfl⟩ hC hx F N off ne
    have N1 : News h₀ L h ((C, oC) :: news) := fun q hq => by
      rcases List.mem_cons.mp hq with rfl | hq
      · exact N _ (.tail _ (.head _))
      · exact N q (.tail _ (.tail _ (.tail _ hq)))
    refine wpAny_mono (turn c u C oC m₂ h tk E' hC hx F N1) (fun y s₂ q => ?_) fun _ _ e => e
    obtain ⟨⟨tk', rfl⟩, t, rfl⟩ := q
    refine CompEnd.intro F N news (fun q hq => hq) off trivial (ih (i + 1) _ (by omega) ?_)
    rw [List.take_add_one, Array.getElem?_toList, hc]
    simpa using IntsAre.append hy (.cons (c : Int) t .nil)
end
end Mine
namespace Mine
abbrev textDict (h1 h2 : Int) (t1 t2 : Tok) (lc : Addr) (n : Nat) : Obj := dictOf [⟨h1, .str (Str.ofString "codes") t1, .ref lc⟩, ⟨h2, .str (Str.ofString "spans") t2, .none⟩] n
local macro_rules | `(tactic| k_mem) => `(tactic| assumption)
local macro_rules | `(tactic| k_all) => `(tactic| (refine List.forall_mem_cons.mpr ⟨?_, ?_⟩ <;> k_all))
local macro_rules | `(tactic| k_all) => `(tactic| assumption)
local macro_rules | `(tactic| k_room) => `(tactic| ((try simp only [depth_under_make, depth_under_kw, depth_in1, depth_deeper, depth_caller]); (try dsimp only [kA, Around.deeper]); (simp only [recursionLimit]; omega)))
local macro_rules | `(tactic| walk_at "eval ListComp") => `(tactic| (k_here; refine stop ?_))
local macro_rules | `(tactic| walk_at "SSrc") => `(tactic| (k_here; refine stop ?_))
set_option maxHeartbeats 8000000 in
theorem textof_ok {w : World} {p : Program} {loose : List Str} {mean : ExcName → Option Value} {mg mb : Str → Option Value}
    {dp un : Nat} {gd : Option (List Code)} {env : Env} {outer : List Env} {A₀ : Around} {base h₀ : Heap} {L : Addr} {m : Str → Option Value} {news : List (Addr × Obj)} {s : Shared}
    {Q E : Value → Shared → Prop} {x : Str} {t : Tok}
    (B : Below A₀ base outer h₀) (F : Fr h₀ L s.heap m) (X : (Mine.hd.heap_1 w.params).In h₀) (T : Top p loose mean mg mb h₀) (hf : env.frame = some L) (hke : env.scope.kind = .function)
    (N : News h₀ L s.heap news) (hlen : x.cps.size ≤ 100) (hdp : dp < 480)
    (ret : ∀ r d lc ys h1 h2 t1 t2 n h' tk', IntsAre ys (x.cps.toList.map Int.ofNat) → Fr h₀ L h' m → News h₀ L h' ((r, instObj 90 d) :: (d, textDict h1 h2 t1 t2 lc n) :: (lc, W.listOf ys.toArray ys.length) :: news) → Q (.ref r) { s with heap := h', toks := tk' }) :
    wpAny (model PySem.Challenge.rw_oj0021_01.row.prog w) (kA dp un gd env outer) (call (.ref 254) [.str x t]) Q E s := by
  revert X; k_fill; intro X
  refine wpAny_call ?_
  k_dflt (refine' code_def (binds := [(Str.ofString "words", .str x t)]) B F X N T ?kA ?kF ?kK ?k6 ?k7 ?k8 ?k9 ?kB ?_ ?c2 ?c3 ?c4 ?c5; (case kA => exact rfl); (case kF => exact hf); (case kK => exact hke); (case k6 => k_is); (case k7 => k_is); (case k8 => (simp only [recursionLimit]; omega)); (case k9 => exact BindsTo.of_eq rfl); (case c5 => decide); (case kB => exact locs rfl); (case c2 => exact rfl); (case c3 => exact rfl); (case c4 => exact rfl))
  intro g' L' h' FG' F' N' B' X' T'
  try dsimp only
  try k_fold
  k_steps
  refine unstop ?_
  k_dflt (refine ListComp_S (zF0 := by assumption) (by with_unfolding_all rfl) (by decide) (by rfl) (by decide) (by rfl) ?_)
  k_steps
  refine unstop ?_
  refine ⟨x, t, news, rfl, rfl, by assumption, by assumption, by rw [sizeLine_eq]; omega, fun g => ?_⟩
  refine signs_rest ?_ ?_
  · intro c u C5 oC m2 h5 tk5 E5 hC hx F5 N5
    k_steps
    exact SEnd.intro
  · intro ys hys
    show LCg.FinE _ _ _ _ _ _ _
    intro D hD tkD F3 N3 off3
    dsimp only
    k_steps
    rename News h₀ L _ _ => Nz
    exact ret _ _ _ ys _ _ _ _ _ _ _ hys (by assumption) Nz
end Mine
namespace Mine
open PyProof.Rows.LCg
section
variable {prog : Program} {w : World} {A : Around} {E : Value → Shared → Prop} {s : Shared} {h₀ : Heap} {L : Addr} {m : Str → Option Value} {env : Env}
abbrev zTests (prog : Program) (w : World) (A : Around) (ifs : List Expr) (cenv : Env) (Q : Bool → Shared → Prop) (E : Value → Shared → Prop) (s : Shared) : Prop :=
  wpAny (model prog w) A (forIn ifs true fun c r => if r = true then do let ok ← isTrue c cenv (eval c cenv); pure (ForInStep.yield ok) else pure (ForInStep.yield r)) Q E s
theorem zloop {elt iter : Expr} {elts ifs : List Expr} {x1} {tp : Pos} {scope : Scope} {pos : Pos} {it acc : Value} {cenv : Env} {R : Result → Shared → Prop} (I : Nat → Shared → Prop)
    (turn : ∀ n s, I n s → wpAny (model prog w) A (pyNext it) (fun r s₁ => match r with
      | none => R (.ok .next) s₁
      | some v => wpAny (model prog w) A (letOwnedTupleGo (.Tuple elts x1 tp) it v) (fun _ s₂ => wpAny (model prog w) A (assign (.Tuple elts x1 tp) cenv v) (fun _ s₃ =>
          zTests prog w A ifs cenv (fun ok s₄ => if ok = true then wpAny (model prog w) A (eval elt cenv) (fun y s₅ =>
              wpAny (model prog w) A (call (.builtin "list.append") [acc, y]) (fun _ s₆ => ∃ k, k < n ∧ I k s₆) (notedBy (model prog w) A cenv fun e s' => R (.error e) s') s₅) (notedBy (model prog w) A cenv fun e s' => R (.error e) s') s₄
            else ∃ k, k < n ∧ I k s₄) (notedBy (model prog w) A cenv fun e s' => R (.error e) s') s₃)
          (notedBy (model prog w) A cenv fun e s' => R (.error e) s') s₂) (notedBy (model prog w) A cenv fun e s' => R (.error e) s') s₁) (notedBy (model prog w) A cenv fun e s' => R (.error e) s') s)
    (n : Nat) (h : I n s) : codeAny (model prog w) A (.compLoop (.ListComp elt [⟨.Tuple elts x1 tp, iter, ifs, 0⟩] scope pos) 0 it acc cenv) R s := by
  refine codeAny_loop rfl I (fun k t hI => ?_) n h
  show wpAny _ A ((compTurn (.ListComp elt [⟨.Tuple elts x1 tp, iter, ifs, 0⟩] scope pos) 0 it acc cenv).onRaise (fun x => do noteFrame x cenv; theTreesLotGoes x)) _ _ t
  refine wpAny_noted ?_
  rw [compTurn_list]
  refine wpAny_bind (wpAny_standAt (wpAny_bind (wpAny_mono (turn k t hI) (fun r t1 q1 => ?_) fun _ _ z => z)))
  cases r with
  | none => exact wpAny_pure q1
  | some v =>
    refine wpAny_bind (wpAny_mono q1 (fun _ t2 q2 => ?_) fun _ _ z => z)
    refine wpAny_bind (wpAny_mono q2 (fun _ t3 q3 => ?_) fun _ _ z => z)
    refine wpAny_bind (wpAny_mono q3 (fun ok t4 q4 => ?_) fun _ _ z => z)
    cases ok with
    | false => exact wpAny_pure ⟨rfl, q4⟩
    | true => exact wpAny_bind (wpAny_bind (wpAny_mono q4 (fun y t5 q5 => wpAny_bind (wpAny_mono q5 (fun _ t6 q6 => wpAny_pure (wpAny_pure ⟨rfl, q6⟩)) fun _ _ z => z)) fun _ _ z => z))

abbrev zSt (z TI TO i1 i2 l1 l2 : Addr) (xs ys : Array Value) (i : Nat) (h : Heap) : Prop :=
  IsZip h z TI TO .none ∧ IsPair h TI (.ref i1) (.ref i2) ∧ (∃ a b, IsPair h TO a b) ∧ h.IsListIter i1 l1 i ∧ h.IsListIter i2 l2 i ∧ h.IsList l1 xs ∧ h.IsList l2 ys
def ZEnd (s₁ : Shared) (h : Heap) (P : Value → Prop) (v : Value) (s₂ : Shared) : Prop := (∃ tk', s₂ = { s₁ with heap := h, toks := tk' }) ∧ P v
theorem ZEnd.intro {s₁ : Shared} {h : Heap} {P : Value → Prop} {v : Value} {tk : Nat} (p : P v) : ZEnd s₁ h P v { s₁ with heap := h, toks := tk } := ⟨⟨tk, rfl⟩, p⟩
def ZMid (prog : Program) (w : World) (A : Around) (s₁ : Shared) (h : Heap) (elt : Expr) (cenv : Env) (E' : Value → Shared → Prop) (P : Value → Prop) (N : Prop) (ok : Bool) (s₃ : Shared) : Prop :=
  (∃ tk', s₃ = { s₁ with heap := h, toks := tk' }) ∧ if ok = true then wpAny (model prog w) A (eval elt cenv) (ZEnd s₁ h P) E' s₃ else N
theorem ZMid.yes {prog : Program} {w : World} {A : Around} {s₁ : Shared} {h : Heap} {elt : Expr} {cenv : Env} {E' : Value → Shared → Prop} {P : Value → Prop} {N : Prop} {tk : Nat}
    (p : wpAny (model prog w) A (eval elt cenv) (ZEnd s₁ h P) E' { s₁ with heap := h, toks := tk }) : ZMid prog w A s₁ h elt cenv E' P N true { s₁ with heap := h, toks := tk } := ⟨⟨tk, rfl⟩, by rw [if_pos rfl]; exact p⟩
theorem ZMid.no {prog : Program} {w : World} {A : Around} {s₁ : Shared} {h : Heap} {elt : Expr} {cenv : Env} {E' : Value → Shared → Prop} {P : Value → Prop} {N : Prop} {tk : Nat}
    (p : N) : ZMid prog w A s₁ h elt cenv E' P N false { s₁ with heap := h, toks := tk } := ⟨⟨tk, rfl⟩, by rw [if_neg (by decide)]; exact p⟩
/-- the turns of a comprehension over a zip, whose words leave the heap alone -/
structure ZTurns (prog : Program) (w : World) (A : Around) (h₀ : Heap) (L : Addr) (m : Str → Option Value) (env : Env) (elt : Expr) (xa xb : Str) (ifs : List Expr) (scope : Scope) (cl : List (Str × Addr)) (s₁ : Shared)
    (xs ys : Array Value) (news : List (Addr × Obj)) (J : Nat → List Value → Prop) : Prop where
  start : J 0 []
  len : ∀ i acc, J i acc → acc.length ≤ i
  turn : ∀ i x y C oC m₂ acc h tk (E' : Value → Shared → Prop), xs[i]? = some x → ys[i]? = some y → J i acc → NsObj oC m₂ → m₂ xa = some x → m₂ xb = some y → Fr h₀ L h m → News h₀ L h ((C, oC) :: news) →
    zTests prog w A ifs (compEnvC scope cl C env) (ZMid prog w A s₁ h elt (compEnvC scope cl C env) E' (fun v => J (i + 1) (acc ++ [v])) (J (i + 1) acc)) E' { s₁ with heap := h, toks := tk }
theorem zblock {elt iter : Expr} {xa xb : Str} {pa pb tp : Pos} {kt : Nat} {ifs : List Expr} {scope : Scope} {cl : List (Str × Addr)} {pos : Pos} {s₂ : Shared} {z TI TO i1 i2 l1 l2 : Addr} {xs ys : Array Value} {n : Nat} {news : List (Addr × Obj)} {J : Nat → List Value → Prop} {RR : Value → Addr → Result → Shared → Prop}
    (hh : A.handled = none) (D : ZipApart z TI TO i1 i2 l1 l2) (hxs : xs.size = n) (hys : ys.size = n) (hsz : n ≤ sizeLine)
    (hcell : ∀ y ∈ scope.names, y.2 ≠ .cell) (hkind : scope.kind = .function) (hx : scope.names.lookup xa = some .local) (hx₂ : scope.names.lookup xb = some .local) (hxx : xa ≠ xb)
    (hst : zSt z TI TO i1 i2 l1 l2 xs ys 0 s₂.heap) (F : Fr h₀ L s₂.heap m) (N : News h₀ L s₂.heap news) (off : ∀ b ∈ [z, TO, i1, i2], L ≠ b ∧ h₀.get? b = none ∧ ∀ p ∈ news, p.1 ≠ b)
    (Z : ZTurns prog w A h₀ L m env elt xa xb ifs scope cl s₂ xs ys news J)
    (hRR : ∀ D C h tk m' acc, Fr h₀ L h m → News h₀ L h ((D, lst acc) :: news) → Off1 D news → h.Ns C m' → h₀.get? C = none → h₀.get? D = none → C ≠ L → D ≠ L → C ≠ D → (∀ p ∈ news, p.1 ≠ C) → J n acc → RR (.ref D) C (.ok .next) { s₂ with heap := h, toks := tk }) :
    wpAny (model prog w) A (newList []) (fun acc s₃ => wpAny (model prog w) A (newFunctionEnv scope env.globals cl [] env.qual none .none (some env)) (fun cenv s₄ =>
      codeAny (model prog w) A (.compStart (.ListComp elt [⟨.Tuple [.Name xa pa, .Name xb pb] kt tp, iter, ifs, 0⟩] scope pos) 0 (.ref z) acc { cenv with scope := relabel scope env }) (RR acc cenv.locals) s₄) E s₃) E s₂ := by
  have W := WalksT.zip2 (prog := prog) (w := w) hh z TI TO i1 i2 l1 l2 D xs ys
  have hn : min xs.size ys.size = n := by omega
  rw [hn] at W
  refine wpAny_newObj_type (wpAny_newFunctionEnv hcell (by intro y hy; simp at hy) (fun h₁ hns₁ hsb₁ => ?_) hkind)
  dsimp only at hns₁ hsb₁ ⊢
  generalize hH2 : s₂.heap.push { cls := .type "list", dict := none, data := .seq ([] : List Value).toArray } = H2 at hns₁ hsb₁ ⊢
  have hC : H2.objs.size = s₂.heap.objs.size + 1 := by rw [← hH2, Heap.size_push]
  generalize hCv : H2.objs.size = C at hns₁ hsb₁ hC ⊢
  generalize hDv : s₂.heap.objs.size = Da at hC ⊢
  have hCD : C ≠ Da := by rw [hC]; exact Nat.ne_of_gt (Nat.lt_succ_self _)
  have below : ∀ {b o}, s₂.heap.get? b = some o → b ≠ C ∧ b ≠ Da := fun {b o} e => by
    have h1 : b < Da := hDv ▸ Heap.lt_size e
    exact ⟨by rw [hC]; exact Nat.ne_of_lt (Nat.lt_succ_of_lt h1), Nat.ne_of_lt h1⟩
  have old : ∀ b o, s₂.heap.get? b = some o → h₁.get? b = some o := fun b o e => hsb₁.extBut b o (below e).1 (Heap.get?_push_of_some _ (hH2 ▸ Heap.get?_push_of_some _ e))
  have hacc : h₁.get? Da = some (lst []) := hsb₁.extBut _ _ (Ne.symm hCD) (Heap.get?_push_of_some _ (hH2 ▸ hDv ▸ Heap.get?_push_size _ rfl))
  have fresh₀ : ∀ b, Da ≤ b → h₀.get? b = none := fun b hb => by
    cases e : h₀.get? b with
    | none => rfl
    | some o' =>
      have h1 := Heap.lt_size (F.keep b o' e)
      rw [hDv] at h1
      exact absurd h1 (Nat.not_lt.mpr hb)
  have hD₀ : h₀.get? Da = none := fresh₀ _ (Nat.le_refl _)
  have hC₀ : h₀.get? C = none := fresh₀ _ (by rw [hC]; exact Nat.le_succ _)
  have hLlt : L < Da := hDv ▸ F.ns.lt
  have hDL : Da ≠ L := Nat.ne_of_gt hLlt
  have hCL : C ≠ L := by rw [hC]; exact Nat.ne_of_gt (Nat.lt_succ_of_lt hLlt)
  have offC : ∀ p ∈ news, p.1 ≠ C := fun p hp => (below (N p hp).1).1
  have offD : ∀ p ∈ news, p.1 ≠ Da := fun p hp => (below (N p hp).1).2
  have off1 : Off1 Da news := (Off3.of (I := Da) (C := Da) (D := Da) fun p hp => ⟨offD p hp, offD p hp, offD p hp⟩).one
  have fpC : ∀ b ∈ [z, TI, TO, i1, i2, l1, l2], b ≠ C ∧ b ≠ Da := by
    obtain ⟨a1, a2, ⟨_, _, a3⟩, ⟨_, a4, _⟩, ⟨_, a5, _⟩, ⟨_, a6, _⟩, ⟨_, a7, _⟩⟩ := hst
    intro b hb
    simp only [List.mem_cons, List.not_mem_nil, or_false] at hb
    rcases hb with rfl | rfl | rfl | rfl | rfl | rfl | rfl
    · exact below a1
    · exact below a2
    · exact below a3
    · exact below a4
    · exact below a5
    · exact below a6
    · exact below a7
  have wrC : ∀ b ∈ [z, TO, i1, i2], b ≠ C ∧ b ≠ Da := fun b hb => fpC b (W.sub b hb)
  -- a heap changed at the zip's own alone
  have frW : ∀ {g g' : Heap} {mm : Str → Option Value}, Fr h₀ L g mm → (∀ b o, b ∉ [z, TO, i1, i2] → g.get? b = some o → g'.get? b = some o) → Fr h₀ L g' mm := fun {g g' mm} F hk =>
    ⟨F.ns.at' fun o e => hk L o (fun hm => (off L hm).1 rfl) e, fun b o e => hk b o (fun hm => by rw [(off b hm).2.1] at e; cases e) (F.keep b o e), F.above⟩
  have nwW : ∀ {g g' : Heap} {acc : List Value}, News h₀ L g ((Da, lst acc) :: news) → (∀ b o, b ∉ [z, TO, i1, i2] → g.get? b = some o → g'.get? b = some o) → News h₀ L g' ((Da, lst acc) :: news) := fun {g g' acc} N hk p hp => by
    refine ⟨hk _ _ (fun hm => ?_) (N p hp).1, (N p hp).2⟩
    rcases List.mem_cons.mp hp with rfl | hp
    · exact (wrC _ hm).2 rfl
    · exact (off _ hm).2.2 p hp rfl
  have loop : ∀ s₃ : Shared, s₃ = { s₂ with heap := h₁, toks := s₂.toks + ([] : List (Str × Value)).length } →
      codeAny (model prog w) A (.compLoop (.ListComp elt [⟨.Tuple [.Name xa pa, .Name xb pb] kt tp, iter, ifs, 0⟩] scope pos) 0 (.ref z) (.ref Da) (compEnvC scope cl C env)) (RR (.ref Da) C) s₃ := by
    rintro s₃ rfl
    refine zloop
      (fun k s' => ∃ h' tk i acc m', s' = { s₂ with heap := h', toks := tk } ∧ i ≤ n ∧ k = n + 1 - i ∧ J i acc ∧ zSt z TI TO i1 i2 l1 l2 xs ys i h' ∧ Fr h₀ L h' m ∧ h'.Ns C m' ∧ News h₀ L h' ((Da, lst acc) :: news)) ?_ (n + 1)
      ⟨h₁, _, 0, [], _, rfl, Nat.zero_le _, rfl, Z.start, W.frame 0 _ _ hst fun b _ o e => old b o e, F.keeps old, hns₁, fun p hp => ?_⟩
    · rintro k s' ⟨h', tk, i, acc, m', rfl, hi, rfl, hJ, hst', F', hn', N'⟩
      by_cases hlt : i < n
      · refine W.item i _ _ _ hlt hst' fun T vals h₂ tk₂ hPt hTge hT hMid hk₂ => ?_
        obtain ⟨x, y, hxi, hyi, rfl⟩ := hPt
        refine W.go _ _ _ i T _ _ _ hMid fun h₃ hst₃ hk₃ => ?_
        have hTw := W.apart i T h₂ hMid
        have hT₃ : IsTup h₃ T #[x, y] := by
          obtain ⟨o, e, r⟩ := hT
          exact ⟨o, hk₃ T o hTw e, r⟩
        have F₃ := frW (frW F' hk₂) hk₃
        have N₃ := nwW (nwW N' hk₂) hk₃
        have hn₃ : h₃.Ns C m' := (hn'.at' fun o e => hk₂ _ o (fun hm => (wrC _ hm).1 rfl) e).at' fun o e => hk₃ _ o (fun hm => (wrC _ hm).1 rfl) e
        refine assign_Tuple_tuple hh hT₃ rfl rfl fun h₅ he => ?_
        have he' : ∀ b o, h₃.get? b = some o → h₅.get? b = some o := fun b o e => he b o (Nat.ne_of_lt (Heap.lt_size e)) e
        refine assignInOrder_cons (wpAny_assign_Name (wpAny_storeName_local (lookup_relabel_local hx) (hn₃.at' fun o e => he' _ o e) (fun h₆ hn₆ hs₆ => ?_) (by simp [compEnvC, relabel, hkind])))
        refine assignInOrder_cons (wpAny_assign_Name (wpAny_storeName_local (lookup_relabel_local hx₂) hn₆ (fun h₇ hn₇ hs₇ => ?_) (by simp [compEnvC, relabel, hkind])))
        refine assignInOrder_nil ?_
        have old7 : ∀ b o, b ≠ C → h₃.get? b = some o → h₇.get? b = some o := fun b o hb e => hs₇.extBut b o hb (hs₆.extBut b o hb (he' b o e))
        have hst₇ : zSt z TI TO i1 i2 l1 l2 xs ys (i + 1) h₇ := W.frame (i + 1) _ _ hst₃ fun b hb o e => old7 b o (fpC b hb).1 e
        obtain ⟨oC, heC, hoC⟩ := ns_obj hn₇
        have F₇ : Fr h₀ L h₇ m := ((F₃.keeps he').change hs₆ hCL hC₀).change hs₇ hCL hC₀
        have N₇ : News h₀ L h₇ ((Da, lst acc) :: news) := fun p hp => by
          refine ⟨old7 _ _ ?_ (N₃ p hp).1, (N₃ p hp).2⟩
          rcases List.mem_cons.mp hp with rfl | hp
          · exact Ne.symm hCD
          · exact offC p hp
        have N₈ : News h₀ L h₇ ((C, oC) :: news) := fun p hp => by
          rcases List.mem_cons.mp hp with rfl | hp
          · exact ⟨heC, hCL, hC₀⟩
          · exact N₇ p (.tail _ hp)
        refine wpAny_mono (Z.turn i x y C oC _ acc h₇ _ _ hxi hyi hJ hoC (by simp [hxx]) (by simp) F₇ N₈) (fun ok s₄ h₄ => ?_) fun _ _ e => e
        obtain ⟨⟨tk₄, rfl⟩, h₄⟩ := h₄
        cases ok with
        | false =>
          simp only [Bool.false_eq_true, if_false] at h₄ ⊢
          exact ⟨n + 1 - (i + 1), by omega, h₇, tk₄, i + 1, acc, _, rfl, hlt, rfl, h₄, hst₇, F₇, hn₇, N₇⟩
        | true =>
          simp only [if_true] at h₄ ⊢
          refine wpAny_mono h₄ (fun v s₅ h₅ => ?_) fun _ _ e => e
          obtain ⟨⟨tk₅, rfl⟩, hJ'⟩ := h₅
          refine append_at (hsz := by show acc.toArray.size ≤ sizeLine; rw [List.size_toArray]; exact Nat.le_trans (Nat.le_trans (Z.len _ _ hJ) hi) hsz) (N₇ _ (.head _)).1 fun h₉ hs₉ hD₉ => ?_
          refine ⟨n + 1 - (i + 1), by omega, h₉, tk₅, i + 1, acc ++ [v], _, rfl, hlt, rfl, hJ', W.frame (i + 1) _ _ hst₇ fun b hb o e => hs₉.extBut b o (fpC b hb).2 e, F₇.change hs₉ hDL hD₀, hn₇.sameBut hs₉ hCD, fun p hp => ?_⟩
          rcases List.mem_cons.mp hp with rfl | hp
          · exact ⟨hD₉.trans (congrArg some (lst_snoc acc v)), hDL, hD₀⟩
          · exact ⟨hs₉.extBut _ _ (offD p hp) (N₇ p (.tail _ hp)).1, (N₇ p (.tail _ hp)).2⟩
      · obtain rfl : i = n := Nat.le_antisymm hi (Nat.not_lt.mp hlt)
        refine W.done _ _ _ hst' fun h₂ tk₂ hk₂ => ?_
        exact hRR _ _ h₂ tk₂ _ acc (frW F' hk₂) (nwW N' hk₂) off1 (hn'.at' fun o e => hk₂ _ o (fun hm => (wrC _ hm).1 rfl) e) hC₀ hD₀ hCL hDL hCD offC hJ
    · rcases List.mem_cons.mp hp with rfl | hp
      · exact ⟨hacc, hDL, hD₀⟩
      · exact ⟨old _ _ (N p hp).1, (N p hp).2⟩
  refine codeAny_compStart_list ?_ ?_
  · exact loop _ rfl
  · exact W.self 0 _ _ _ (W.frame 0 _ _ hst fun b _ o e => old b o e) (loop _ rfl)
def ZSrc (prog : Program) (w : World) (A : Around) (h₀ : Heap) (L : Addr) (m : Str → Option Value) (env : Env) (elt : Expr) (xa xb : Str) (ifs : List Expr) (scope : Scope) (cl : List (Str × Addr)) (Fin : Shared → List Value → List (Addr × Obj) → Prop) (xv : Value) (s₁ : Shared) : Prop :=
  ∃ z TI TO i1 i2 l1 l2 xs ys n news J, xv = .ref z ∧ A.handled = none ∧ ZipApart z TI TO i1 i2 l1 l2 ∧ xs.size = n ∧ ys.size = n ∧ n ≤ sizeLine ∧ zSt z TI TO i1 i2 l1 l2 xs ys 0 s₁.heap ∧ Fr h₀ L s₁.heap m ∧ News h₀ L s₁.heap news ∧
    (∀ b ∈ [z, TO, i1, i2], L ≠ b ∧ h₀.get? b = none ∧ ∀ p ∈ news, p.1 ≠ b) ∧ ZTurns prog w A h₀ L m env elt xa xb ifs scope cl s₁ xs ys news J ∧ ∀ acc, J n acc → Fin s₁ acc news
theorem zsrc_call {elt : Expr} {xa xb : Str} {ifs : List Expr} {scope : Scope} {cl : List (Str × Addr)} {Fin : Shared → List Value → List (Addr × Obj) → Prop} {l1 l2 : Addr} {xs ys : Array Value} {n c1 c2 : Nat} {news : List (Addr × Obj)} (J : Nat → List Value → Prop)
    (hh : A.handled = none) (F : Fr h₀ L s.heap m) (N : News h₀ L s.heap news) (m1 : (l1, W.listOf xs c1) ∈ news) (m2 : (l2, W.listOf ys c2) ∈ news) (hxs : xs.size = n) (hys : ys.size = n) (hsz : n ≤ sizeLine)
    (Z : ∀ g, ZTurns prog w A h₀ L m env elt xa xb ifs scope cl { s with heap := g } xs ys news J) (fin : ∀ g acc, J n acc → Fin { s with heap := g } acc news) :
    wpAny (model prog w) A (call (.type "zip") [.ref l1, .ref l2]) (ZSrc prog w A h₀ L m env elt xa xb ifs scope cl Fin) E s := by
  have hl1 := isList_of N m1
  have hl2 := isList_of N m2
  have a1 : l1 < s.heap.objs.size := Heap.lt_size (N _ m1).1
  have a2 : l2 < s.heap.objs.size := Heap.lt_size (N _ m2).1
  refine call_zip_2 hl1 hl2 fun h' hz hTI hTO hi1 hi2 _ hk => ?_
  refine ⟨_, _, _, _, _, l1, l2, xs, ys, n, news, J, rfl, hh, zipApart_new a1 a2, hxs, hys, hsz, ⟨hz, hTI, ⟨_, _, hTO⟩, hi1, hi2, Heap.IsList.at hl1 fun o e => hk _ o e, Heap.IsList.at hl2 fun o e => hk _ o e⟩, F.keeps hk, N.grown hk, fun b hb => ?_, Z h', fin h'⟩
  have hge : s.heap.objs.size ≤ b := by
    simp only [List.mem_cons, List.not_mem_nil, or_false] at hb
    rcases hb with rfl | rfl | rfl | rfl
    · exact Nat.le_add_right _ 4
    · exact Nat.le_add_right _ 3
    · exact Nat.le_refl _
    · exact Nat.le_add_right _ 1
  refine ⟨Nat.ne_of_lt (Nat.lt_of_lt_of_le F.ns.lt hge), ?_, fun p hp => Nat.ne_of_lt (Nat.lt_of_lt_of_le (Heap.lt_size (N p hp).1) hge)⟩
  cases e : h₀.get? b with
  | none => rfl
  | some o => exact absurd (Heap.lt_size (F.keep b o e)) (Nat.not_lt.mpr hge)
theorem ListComp_Z {elt iter : Expr} {xa xb : Str} {pa pb tp : Pos} {kt : Nat} {ifs : List Expr} {scope : Scope} {cl : List (Str × Addr)} {pos : Pos} {Q : Value → Shared → Prop} (zF0 : Fr h₀ L s.heap m)
    (hclos : closureFor scope env = pure cl) (hcell : ∀ y ∈ scope.names, y.2 ≠ .cell) (hkind : scope.kind = .function)
    (hnames : ∀ y ∈ scope.names, y.2 = .local → scope.names.lookup y.1 = some .local) (hx : scope.names.lookup xa = some .local) (hx₂ : scope.names.lookup xb = some .local) (hxx : xa ≠ xb)
    (h : wpAny (model prog w) A (eval iter env) (ZSrc prog w A h₀ L m env elt xa xb ifs scope cl (fun s₂ => FinE h₀ L m s₂ Q)) E s)
    (hs : ∀ x, foldedSetIterable iter env x = pure x := by intro _; rfl) :
    wpAny (model prog w) A (eval (.ListComp elt [⟨.Tuple [.Name xa pa, .Name xb pb] kt tp, iter, ifs, 0⟩] scope pos) env) Q E s := by
  rw [eval_ListComp]
  refine wpAny_comprehension_free (use := none) rfl hs hclos hkind hnames (wpAny_mono h (fun xv s₁ h₁ => ?_) fun _ _ e => e)
  obtain ⟨z, TI, TO, i1, i2, l1, l2, xs, ys, n, news, J, rfl, hh, D, hxs, hys, hsz, hst, F, N, off, Z, fin⟩ := h₁
  refine wpAny_pyIter_zip hst.1 ?_
  refine zblock hh D hxs hys hsz hcell hkind hx hx₂ hxx hst F N off Z ?_
  intro D' C h tk m' acc F' N' o1 hn hC₀ hD₀ hCL hDL hCD offC hJ
  refine ⟨m', hn, fun h'' hs'' => fin acc hJ D' h'' tk (F'.change hs'' hCL hC₀) (fun p hp => ?_) o1⟩
  refine ⟨hs''.extBut _ _ ?_ (N' p hp).1, (N' p hp).2⟩
  rcases List.mem_cons.mp hp with rfl | hp
  · exact Ne.symm hCD
  · exact offC p hp
theorem Assign_ListComp_Z {elt iter : Expr} {xa xb y : Str} {pa pb tp py : Pos} {kt : Nat} {ifs : List Expr} {scope : Scope} {cl : List (Str × Addr)} {pos spos : Pos} {Q : Flow → Shared → Prop} (zF0 : Fr h₀ L s.heap m) (hLe : env.locals = L)
    (hsw : swapsWith (.ListComp elt [⟨.Tuple [.Name xa pa, .Name xb pb] kt tp, iter, ifs, 0⟩] scope pos) (some (.Name y py)) spos.line env = pure true)
    (hclos : closureFor scope env = pure cl) (hcell : ∀ z ∈ scope.names, z.2 ≠ .cell) (hkind : scope.kind = .function)
    (hnames : ∀ z ∈ scope.names, z.2 = .local → scope.names.lookup z.1 = some .local) (hx : scope.names.lookup xa = some .local) (hx₂ : scope.names.lookup xb = some .local) (hxx : xa ≠ xb)
    (hy : env.kindOf y = some .local) (hp : (env.scope.kind == .class || (env.scope.kind == .module && env.locals != env.globals)) = false)
    (h : wpAny (model prog w) A (eval iter env) (ZSrc prog w A h₀ L m env elt xa xb ifs scope cl (fun s₂ => FinA h₀ L m s₂ y Q)) E s)
    (hs : ∀ x, foldedSetIterable iter env x = pure x := by intro _; rfl) :
    wpAny (model prog w) A (exec (.Assign [.Name y py] (.ListComp elt [⟨.Tuple [.Name xa pa, .Name xb pb] kt tp, iter, ifs, 0⟩] scope pos) spos) env) Q E s := by
  subst hLe
  rw [exec_Assign_Name_used _ _ _ _ hsw]
  refine wpAny_bind (wpAny_standAt (wpAny_bind ?_))
  show wpAny _ A (do let _ ← comprehension (.ListComp elt [⟨.Tuple [.Name xa pa, .Name xb pb] kt tp, iter, ifs, 0⟩] scope pos) scope env _ (newList []) false (eval iter env) (some (assign (.Name y py) env))) _ _ s
  refine wpAny_bind (wpAny_mono (wpAny_comprehension_free (use := some (assign (.Name y py) env)) (Q := fun _ s' => Q .next s') rfl hs hclos hkind hnames
    (wpAny_mono h (fun xv s₁ h₁ => ?_) fun _ _ e => e)) (fun _ s' hq => wpAny_pure (wpAny_pure hq)) fun _ _ e => e)
  obtain ⟨z, TI, TO, i1, i2, l1, l2, xs, ys, n, news, J, rfl, hh, D, hxs, hys, hsz, hst, F, N, off, Z, fin⟩ := h₁
  refine wpAny_pyIter_zip hst.1 ?_
  refine zblock hh D hxs hys hsz hcell hkind hx hx₂ hxx hst F N off Z ?_
  intro D' C h' tk m' acc F' N' o1 hn hC₀ hD₀ hCL hDL hCD offC hJ
  show wpAny _ A (assign (.Name y py) env (.ref D')) _ _ _
  refine wpAny_assign_Name (wpAny_storeName_local hy F'.ns (fun h₂ hn₂ hs₂ => ?_) hp)
  have hL₀ : h₀.get? env.locals = none := Heap.get?_none_of_le F'.above
  have F₂ : Fr h₀ env.locals h₂ (fun z => if z = y then some (.ref D') else m z) := ⟨hn₂, fun b o e => hs₂.extBut b o (fun q => by rw [q, hL₀] at e; cases e) (F'.keep b o e), F'.above⟩
  refine ⟨m', hn.sameBut hs₂ hCL, fun h'' hs'' => fin acc hJ D' h'' _ (F₂.change hs'' hCL hC₀) (fun p hp => ?_) o1⟩
  have e1 : h₂.get? p.1 = some p.2 := hs₂.extBut _ _ (N' p hp).2.1 (N' p hp).1
  refine ⟨hs''.extBut _ _ ?_ e1, (N' p hp).2⟩
  rcases List.mem_cons.mp hp with rfl | hp
  · exact Ne.symm hCD
  · exact offC p hp
end
end Mine
namespace Mine
theorem join_size (cs : List Int) : (Txt.join (Str.ofString "") (cs.map sgn)).cps.size = cs.length := by
  have h := KT.join_ones (cs.map sgn) fun a ha => by
    obtain ⟨c, _, rfl⟩ := List.mem_map.mp ha
    exact sgn_len c
  rw [List.length_map] at h
  exact h
theorem good_codes {cs : List Int} (h : ∀ c ∈ cs, okc c = true) : (Txt.join (Str.ofString "") (cs.map sgn)).cps.toList.map Int.ofNat = cs := by
  have e1 : cs.map sgn = (cs.map Int.toNat).map fun k => (⟨#[k]⟩ : Str) := by
    rw [List.map_map]
    exact List.map_congr_left fun c hc => sgn_t (h c hc)
  have e2 : Txt.join (Str.ofString "") (cs.map sgn) = ⟨(cs.map Int.toNat).toArray⟩ := by
    show Builtin.Str.glued (Str.ofString "") (cs.map sgn) = _
    rw [StrLaws.glued_eq_join, e1]
    exact join_ones (cs.map Int.toNat)
  rw [e2]
  show ((cs.map Int.toNat).map Int.ofNat) = cs
  rw [List.map_map]
  have e3 : ∀ l : List Int, (∀ c ∈ l, okc c = true) → l.map (Int.ofNat ∘ Int.toNat) = l := by
    intro l
    induction l with
    | nil => exact fun _ => rfl
    | cons c r ih =>
      intro hl
      have hc := of_decide_eq_true (hl c (.head _))
      rw [List.map_cons, ih fun x hx => hl x (.tail _ hx)]
      congr 1
      show Int.ofNat c.toNat = c
      have : (c.toNat : Int) = c := Int.toNat_of_nonneg (by omega)
      exact this
  exact e3 cs h
local macro_rules | `(tactic| k_mem) => `(tactic| assumption)
local macro_rules | `(tactic| k_all) => `(tactic| assumption)
local macro_rules | `(tactic| k_room) => `(tactic| ((try simp only [depth_under_make, depth_under_kw, depth_in1, depth_deeper, depth_caller]); (try dsimp only [kA, Around.deeper]); (simp only [recursionLimit]; omega)))
local macro_rules | `(tactic| walk_at "call ref") => `(tactic| (k_here; (with_reducible show wpAny _ _ (call (Value.ref _) _ _) _ _ _); refine stop ?_))
local macro_rules | `(tactic| walk_at "call ref") => `(tactic| (k_here; (with_reducible show wpAny _ _ (call (Value.ref 278) _ _) _ _ _); k_dflt (refine' dip_okU ?B ?F ?X ?T ?a ?b ?N ?U ?P ?C ?hC ?hS ?k1 ?m0 ?m1 ?d ?_; (case B => assumption); (case F => k_asm); (case X => assumption); (case T => assumption); (case a => rfl); (case b => rfl); (case N => k_asm); (case U => k_updF); (case P => assumption); (case C => assumption); (case hC => (intro q9 hq9; k_ownIn)); (case hS => assumption); (case k1 => omega); (case m0 => decide); (case m1 => decide); (case d => (dsimp only [kA, Around.deeper]; omega))); intro r9 o9 t9 h9 tk9 hr0 hr1 hP9 F9 N9))
local macro_rules | `(tactic| walk_at "subscriptTail") => `(tactic| (k_here; (with_reducible show wpAny _ _ (subscriptTail _ _ (Value.ref _) (Value.int _ _)) _ _ _); refine stop ?_))
local macro_rules | `(tactic| walk_at "eval Name") => `(tactic| (k_here; (with_reducible show wpAny _ _ (eval (Expr.Name _ _) (envOfC _ _ _ _ _)) _ _ _); (with_reducible rename Fr _ _ _ _ => kF); k_dflt (refine' nameX_L kF ?k2 ?_ ?a ?b; (case a => rfl); (case b => rfl); (case k2 => first | exact rfl | assumption); k_whole)))
local macro_rules | `(tactic| walk_at "call builtin:str.join") => `(tactic| (k_here; refine stop ?_))
local macro_rules | `(tactic| walk_at "call builtin:chr") => `(tactic| (k_here; (with_reducible show wpAny _ _ (call (Value.builtin "chr") [Value.int _ _]) _ _ _); k_dflt (refine' chr_of_range ?a ?b ?_; (case a => omega); (case b => omega))))
local macro_rules | `(tactic| walk_at "CompSrc") => `(tactic| (k_here; refine stop ?_))
local macro_rules | `(tactic| walk_at "eval ListComp") => `(tactic| (k_here; refine stop ?_))
local macro_rules | `(tactic| walk_at "call type:zip") => `(tactic| (k_here; refine stop ?_))
local macro_rules | `(tactic| walk_at "exec Assign cons ListComp") => `(tactic| (k_here; (with_reducible show wpAny _ _ (exec (Stmt.Assign _ (Expr.ListComp _ [⟨Expr.Tuple _ _ _, _, _, _⟩] _ _) _) _) _ _ _); refine stop ?_))
local macro_rules | `(tactic| walk_at "compareOp Eq ref ref") => `(tactic| (k_here; refine stop ?_))
local macro_rules | `(tactic| walk_at "compareOp Eq int int") => `(tactic| (k_here; refine stop ?_))
local macro_rules | `(tactic| walk_at "compareOp NotEq str str") => `(tactic| (k_here; refine stop ?_))
local macro_rules | `(tactic| walk_at "CompEnd") => `(tactic| (k_here; refine stop ?_))
set_option maxHeartbeats 8000000 in
theorem codes_ok {w : World} {p : Program} {loose : List Str} {mean : ExcName → Option Value} {mg mb : Str → Option Value}
    {dp un : Nat} {gd : Option (List Code)} {env : Env} {outer : List Env} {A₀ : Around} {base h₀ : Heap} {L : Addr} {m : Str → Option Value} {news : List (Addr × Obj)} {s : Shared}
    {Q E : Value → Shared → Prop} {pa ca : Addr} {o : Obj} {k : Int}
    (B : Below A₀ base outer h₀) (F : Fr h₀ L s.heap m) (X : (Mine.hd.heap_1 w.params).In h₀) (T : Top p loose mean mg mb h₀) (hf : env.frame = some L) (hke : env.scope.kind = .function)
    (N : News h₀ L s.heap ((pa, o) :: news)) (P : PotObj ca k o) (C : PotCells ca news) (hsep : ∀ q ∈ news, q.1 ≠ pa)
    (hk1 : k < 900) (hdp : dp < 470) (hun : un < 4000)
    (ret : ∀ o' h' tk', PotObj ca (k + 6) o' → Fr h₀ L h' m → News h₀ L h' ((pa, o') :: news) → Q (.bool true) { s with heap := h', toks := tk' }) :
    wpAny (model PySem.Challenge.rw_oj0021_01.row.prog w) (kA dp un gd env outer) (call (.ref 295) [.ref pa]) Q E s := by
  revert X; k_fill; intro X
  refine wpAny_call ?_
  k_dflt (refine' code_defC (binds := [(Str.ofString "pot", .ref pa)]) B F X N T ?kA ?kF ?kK ?k6 ?k7 ?k8 ?k9 ?kB ?kD ?_ ?c2 ?c3 ?c4; (case kA => exact rfl); (case kF => exact hf); (case kK => exact hke); (case k6 => k_is); (case k7 => k_is); (case k8 => (simp only [recursionLimit]; omega)); (case k9 => exact BindsTo.of_eq rfl); (case kB => exact rfl); (case kD => decide +kernel); (case c2 => exact rfl); (case c3 => exact rfl); (case c4 => exact rfl))
  intro g' L' h' tk' cells' FG' F' N' Y' B' X' T' l1
  (try k_lt l1)
  k_cells Y'
  simp only [List.cons_append, List.nil_append] at N'
  rename_i oc hoc
  replace F' : Fr g' L' h' (fun _ => none) := F'
  replace hoc : oc.data = .cell (some (.ref pa)) := hoc
  try dsimp only
  try k_fold
  k_steps
  refine unstop ?_
  rename IsRange _ _ _ _ _ _ _ _ => R1
  rename Fr g' L' _ _ => F1
  rename News g' L' _ _ => N1
  obtain ⟨six, h6⟩ : ∃ six : Nat, six = 6 := ⟨6, rfl⟩
  refine LCg.CompSrc.range (n := six) rfl F1 N1 R1 (by decide) (by rw [h6]; rfl) (by rw [sizeLine_eq, h6]; decide) fun g => ?_
  refine' (?_ : ∀ (n i : Nat) (ys : List Value) (cs : List Int) (o1 : Obj), i + n = 6 → IntsAre ys cs → cs.length = i → PotObj ca (k + i) o1 → LCg.CompRest _ _ _ _ _ _ _ _ _ _ _ _ _ _ _ n i ys ((L' + 1, oc) :: (pa, o1) :: news)) six 0 [] [] o (by omega) .nil rfl (P.mono (by omega))
  intro n
  induction n with
  | succ n ih =>
    intro i ys cs o1 hi hI hcl hP1
    refine LCg.CompRest.succ ?_
    intro v I oI C' oC D m2 hC tkC E' hv hNs hx F3 N3 off3 hne3
    simp only [LCg.Off3] at off3
    k_steps
    refine unstop ?_
    rename News g' L' _ _ => N4
    k_dflt (refine' m_ints (ns := [97, 0, 955, 55295, 55296, 57343, 57344, 1114111, 1114112, -1]) N4 ?zm ?zI ?za ?zb ?zc ?_ ?zh; (case zm => exact .head _); (case zI => exact .cons _ _ (.cons _ _ (.cons _ _ (.cons _ _ (.cons _ _ (.cons _ _ (.cons _ _ (.cons _ _ (.cons _ _ (.cons _ _ .nil)))))))))); (case za => assumption); (case zb => omega); (case zc => (simp only [List.length_cons, List.length_nil]; omega)); (case zh => with_unfolding_all rfl))
    intro tM
    k_steps
    refine unstop ?_
    rename PotObj ca _ _ => hP2
    rename Fr g' L' _ _ => F5
    rename News g' L' _ _ => N5
    refine LCg.CompEnd.intro F5 N5 ((L' + 1, oc) :: (pa, _) :: news) (fun q hq => .tail _ hq) (by simp only [LCg.Off3]; exact off3) trivial ?_
    exact ih (i + 1) _ _ _ (by omega) (hI.append (.cons _ tM .nil)) (by simp [hcl]) (hP2.mono (by omega))
  | zero =>
    intro i ys cs o1 hi hI hcl hP1
    refine LCg.CompRest.zero ?_
    intro D hD tkD F3 N3 off3
    have hlen6 : cs.length = 6 := by omega
    obtain ⟨led, hDl, hfin, N4⟩ : ∃ led, (D, LCg.lst ys) ∈ led ∧ (∀ q ∈ (pa, o1) :: news, q ∈ led) ∧ News g' L' hD led := ⟨(D, LCg.lst ys) :: (L' + 1, oc) :: (pa, o1) :: news, List.Mem.head _, fun q hq => List.Mem.tail _ (List.Mem.tail _ hq), N3⟩
    clear N3 off3 N1 hi
    dsimp only
    k_steps
    refine unstop ?_
    rename Fr g' L' _ _ => F4
    have hsz : ys.toArray.size = cs.length := by rw [List.size_toArray, hI.length]
    refine LCg.CompSrc.ledger rfl F4 N4 hDl (by rw [hsz, sizeLine_eq]; omega) fun g => ?_
    rw [hsz]
    refine' (?_ : ∀ (n i : Nat) (bs : List Value), i + n = cs.length → bs = (cs.take i).map (fun c => Value.bool (okc c)) → LCg.CompRest _ _ _ _ _ _ _ _ _ _ _ _ _ _ _ n i bs led) cs.length 0 [] (by omega) rfl
    intro n
    induction n with
    | succ n ih2 =>
      intro i2 bs hi2 hbs
      refine LCg.CompRest.succ ?_
      intro v I5 oI C5 oC5 D5 m2 h5 tk5 E5 hv hC5 hx F5 N5 off5 ne5
      obtain ⟨c, t, rfl, hc⟩ := hI.at i2 v (by simpa using hv)
      have step : bs ++ [.bool (okc c)] = (cs.take (i2 + 1)).map (fun c => Value.bool (okc c)) := by rw [hbs, List.take_add_one, hc]; simp
      k_steps
      all_goals refine unstop ?_
      all_goals refine LCg.CompEnd.intro (by assumption) (by assumption) led (fun q hq => hq) off5 (.inr ⟨_, hDl, rfl, _, rfl⟩) ?_
      all_goals refine ih2 (i2 + 1) _ (by omega) ?_
      all_goals refine (congrArg (fun z => bs ++ [Value.bool z]) ?_).trans step
      all_goals first
        | exact (okc_t (by omega)).symm
        | exact (okc_f (by omega)).symm
        | exact decide_eq_decide.mpr (by omega)
    | zero =>
      intro i2 bs hi2 hbs
      refine LCg.CompRest.zero ?_
      intro D2 hD2 tkD2 F6 N6 off6
      have hbs' : bs = cs.map (fun c => Value.bool (okc c)) := by
        have e : i2 = cs.length := by omega
        rw [hbs, e, List.take_length]
      have hblen : bs.length = cs.length := by rw [hbs', List.length_map]
      clear hbs off6 hi2 F4
      obtain ⟨led2, hDl2, hDl1, hfin2, N7⟩ : ∃ led2, (D2, LCg.lst bs) ∈ led2 ∧ (D, LCg.lst ys) ∈ led2 ∧ (∀ q ∈ (pa, o1) :: news, q ∈ led2) ∧ News g' L' hD2 led2 := ⟨(D2, LCg.lst bs) :: led, List.Mem.head _, List.Mem.tail _ hDl, fun q hq => List.Mem.tail _ (hfin q hq), N6⟩
      clear N6 hDl hfin N4
      dsimp only
      k_steps
      refine unstop ?_
      k_dflt (refine' told_ok B' ?zF X' T' ?za ?zb ?zN hDl1 hI ?zk ?zd ?_; (case zF => k_asm); (case za => rfl); (case zb => rfl); (case zN => k_asm); (case zk => omega); (case zd => (dsimp only [kA, Around.deeper]; omega)))
      intro tW h8 tk8 F8 N8
      k_steps
      refine unstop ?_
      k_dflt (refine ListComp_Z (zF0 := by assumption) (by with_unfolding_all rfl) (by decide) (by rfl) (by decide) (by rfl) (by rfl) (by decide) ?_)
      k_steps
      refine unstop ?_
      have hsz2 : bs.toArray.size = cs.length := by rw [List.size_toArray, hblen]
      have hbat : ∀ (i : Nat) (y : Value) (c : Int), bs.toArray[i]? = some y → cs[i]? = some c → y = .bool (okc c) := by
        intro i y c hy hc
        rw [List.getElem?_toArray, hbs', List.getElem?_map, hc] at hy
        exact (Option.some.inj hy).symm
      refine zsrc_call (n := cs.length) (fun i acc => StrsAre acc ((cs.take i).map sgn)) rfl (by assumption) (by assumption) hDl1 hDl2 hsz hsz2 (by rw [sizeLine_eq]; omega) (fun g => ⟨.nil, ?_, ?_⟩) ?_
      · intro i acc hJ
        have h1 := hJ.length
        rw [List.length_map, List.length_take] at h1
        omega
      · intro i x y C5 oC5 m5 acc h5 tk5 E5 hx hy hJ hNs hxa hxb F5 N5
        obtain ⟨c, t, rfl, hc⟩ := hI.at i x (by simpa using hx)
        obtain rfl := hbat i y c hy hc
        have step : ∀ t', StrsAre (acc ++ [.str (sgn c) t']) ((cs.take (i + 1)).map sgn) := fun t' => by
          rw [List.take_add_one, hc]
          simpa using kct_snoc hJ
        refine wpAny_tests_nil ?_
        refine ZMid.yes ?_
        cases hk : okc c with
        | true =>
          have hr := of_decide_eq_true hk
          rw [hk] at hxb
          rw [sgn_t hk] at step
          k_steps
          exact ZEnd.intro (step _)
        | false =>
          rw [hk] at hxb
          rw [sgn_f hk] at step
          k_steps
          exact ZEnd.intro (step _)
      · intro g acc hJ
        rw [List.take_length] at hJ
        show LCg.FinE _ _ _ _ _ _ _
        intro D3 hD3 tkD3 F9 N9 off9
        dsimp only
        k_steps
        refine unstop ?_
        refine join_list (ys := cs.map sgn) (isList_of N9 (.head _)) (by simpa using hJ) (by rw [sum_sgn, List.length_map]; show _ + cs.length * 0 ≤ _; omega) fun t9 k9 => ?_
        k_steps
        refine unstop ?_
        refine ne_str ?_
        rw [bne_self_eq_false]
        have N10 : News g' L' hD3 led2 := fun q hq => N9 q (.tail _ hq)
        clear N9 off9 hJ
        k_steps
        refine unstop ?_
        k_dflt (refine Assign_ListComp_Z (zF0 := by assumption) (by rfl) (by with_unfolding_all rfl) (by with_unfolding_all rfl) (by decide) (by rfl) (by decide) (by rfl) (by rfl) (by decide) (by rfl) (by rfl) ?_)
        k_steps
        refine unstop ?_
        refine zsrc_call (n := cs.length) (fun i acc => IntsAre acc ((cs.take i).filter okc)) rfl (by assumption) (by assumption) hDl1 hDl2 hsz hsz2 (by rw [sizeLine_eq]; omega) (fun g => ⟨.nil, ?_, ?_⟩) ?_
        · intro i acc hJ
          have h1 := hJ.length
          have h2 := List.length_filter_le okc (cs.take i)
          rw [List.length_take] at h2
          omega
        · intro i x y C5 oC5 m5 acc h5 tk5 E5 hx hy hJ hNs hxa hxb F5 N5
          obtain ⟨c, t, rfl, hc⟩ := hI.at i x (by simpa using hx)
          obtain rfl := hbat i y c hy hc
          have step : (cs.take (i + 1)).filter okc = (cs.take i).filter okc ++ if okc c = true then [c] else [] := by
            rw [List.take_add_one, hc, List.filter_append]
            cases hk : okc c <;> simp [hk]
          refine wpAny_tests_one ?_
          cases hk : okc c with
          | true =>
            rw [hk] at hxb
            rw [hk, if_pos rfl] at step
            k_steps
            refine ZMid.yes ?_
            k_steps
            refine ZEnd.intro ?_
            rw [step]
            exact hJ.append (.cons _ _ .nil)
          | false =>
            rw [hk] at hxb
            rw [hk, if_neg (by decide), List.append_nil] at step
            k_steps
            refine ZMid.no ?_
            rw [step]
            exact hJ
        · intro g acc hJ
          rw [List.take_length] at hJ
          show LCg.FinA _ _ _ _ _ _ _ _
          intro D4 hD4 tkD4 F9 N9 off9
          have hgl : (cs.filter okc).length ≤ 6 := hlen6 ▸ List.length_filter_le okc cs
          have hgo : ∀ c ∈ cs.filter okc, okc c = true := fun c hc => (List.mem_filter.mp hc).2
          dsimp only
          k_steps
          refine unstop ?_
          k_dflt (refine' told_ok B' ?zF X' T' ?za ?zb ?zN (.head _) hJ ?zk ?zd ?_; (case zF => k_asm); (case za => rfl); (case zb => rfl); (case zN => exact N9); (case zk => omega); (case zd => (dsimp only [kA, Around.deeper]; omega)))
          intro tX h10 tk10 F10 N11
          k_steps
          refine unstop ?_
          k_dflt (refine' textof_ok B' ?zF X' T' ?za ?zb ?zN ?zk ?zd ?_; (case zF => k_asm); (case za => rfl); (case zb => rfl); (case zN => exact N11); (case zk => (rw [join_size]; omega)); (case zd => (dsimp only [kA, Around.deeper]; omega)))
          intro rX dX lX zs a1 a2 u1 u2 nX h11 tk11 hzs F11 N12
          rw [good_codes hgo] at hzs
          k_steps
          refine unstop ?_
          refine eq_intsK (isList_of (by assumption) (.tail _ (.tail _ (.head _)))) hzs (isList_of (by assumption) (.tail _ (.tail _ (.tail _ (.head _))))) hJ (by dsimp only [kA, Around.deeper, cLine]; omega) ?_
          rw [decide_eq_true rfl]
          k_steps
          have hwl : (Txt.join (Str.ofString "") (cs.map sgn)).length = 6 := (join_size cs).trans hlen6
          refine PyProof.Rows.len_str (by rw [hwl]; decide) ?_
          rw [hwl]
          k_steps
          refine unstop ?_
          refine eq_int ?_
          k_steps
          rename News h₀ L _ _ => Nz
          exact ret _ _ _ (hP1.mono (by omega)) (by assumption) fun q hq => Nz q (.tail _ (.tail _ (.tail _ (.tail _ (hfin2 q hq)))))
end Mine
namespace Mine
local macro_rules | `(tactic| k_mem) => `(tactic| assumption)
local macro_rules | `(tactic| k_all) => `(tactic| (refine List.forall_mem_cons.mpr ⟨?_, ?_⟩ <;> k_all))
local macro_rules | `(tactic| k_all) => `(tactic| assumption)
local macro_rules | `(tactic| k_room) => `(tactic| ((try simp only [depth_under_make, depth_under_kw, depth_in1, depth_deeper, depth_caller]); (try dsimp only [kA]); (simp only [recursionLimit]; omega)))
set_option maxHeartbeats 8000000 in
theorem mk38_ok {w : World} {p : Program} {loose : List Str} {mean : ExcName → Option Value} {mg mb : Str → Option Value}
    {dp un : Nat} {gd : Option (List Code)} {env : Env} {outer : List Env} {A₀ : Around} {base h₀ : Heap} {L : Addr} {m : Str → Option Value} {news : List (Addr × Obj)} {s : Shared}
    {Q E : Value → Shared → Prop} {v0 v1 : Value}
    (B : Below A₀ base outer h₀) (F : Fr h₀ L s.heap m) (X : (Mine.hd.heap_1 w.params).In h₀) (T : Top p loose mean mg mb h₀) (hf : env.frame = some L) (hke : env.scope.kind = .function)
    (N : News h₀ L s.heap news) (hdp : dp < 500)
    (ret : ∀ x d od h' tk', Fr h₀ L h' m → News h₀ L h' ((x, instObj 38 d) :: (d, od) :: news) → Q (.ref x) { s with heap := h', toks := tk' }) :
    wpAny (model PySem.Challenge.rw_oj0021_01.row.prog w) (kA dp un gd env outer) (call (.ref 38) [v0, v1]) Q E s := by
  revert X; k_fill; intro X
  k_dflt (refine' call_cls ?k1 ?k2 ?k3 ?k4 ?k5 ?k6 ?_; (case k1 => exact F); (case k2 => exact X); (case k3 => exact N); (case k4 => k_is); (case k5 => k_is); (case k6 => k_is))
  intro x d h1 F1 N1 hlt hdx
  k_dflt (refine' code_def (binds := [(Str.ofString "self", .ref x), (Str.ofString "number", v0), (Str.ofString "name", v1)]) B F1 X N1 T ?kA ?kF ?kK ?k6 ?k7 ?k8 ?k9 ?kB ?_ ?c2 ?c3 ?c4 ?c5; (case kA => exact rfl); (case kF => exact hf); (case kK => exact hke); (case k6 => k_is); (case k7 => k_is); (case k8 => k_room); (case k9 => exact BindsTo.of_eq rfl); (case c5 => decide); (case kB => exact locs rfl); (case c2 => exact rfl); (case c3 => exact rfl); (case c4 => exact rfl))
  intro g' L' h' FG' F' N' B' X' T'
  have hne : ∀ q ∈ news, q.1 ≠ d := fun q hq => Nat.ne_of_lt (hlt q hq)
  have hxd : x ≠ d := Nat.ne_of_gt hdx
  try dsimp only
  try k_fold
  k_steps
  exact ret _ _ _ _ _ (by assumption) (by assumption)
set_option maxHeartbeats 8000000 in
theorem mk68_ok {w : World} {p : Program} {loose : List Str} {mean : ExcName → Option Value} {mg mb : Str → Option Value}
    {dp un : Nat} {gd : Option (List Code)} {env : Env} {outer : List Env} {A₀ : Around} {base h₀ : Heap} {L : Addr} {m : Str → Option Value} {news : List (Addr × Obj)} {s : Shared}
    {Q E : Value → Shared → Prop} {v0 v1 : Value}
    (B : Below A₀ base outer h₀) (F : Fr h₀ L s.heap m) (X : (Mine.hd.heap_1 w.params).In h₀) (T : Top p loose mean mg mb h₀) (hf : env.frame = some L) (hke : env.scope.kind = .function)
    (N : News h₀ L s.heap news) (hdp : dp < 500)
    (ret : ∀ x d od h' tk', Fr h₀ L h' m → News h₀ L h' ((x, instObj 68 d) :: (d, od) :: news) → Q (.ref x) { s with heap := h', toks := tk' }) :
    wpAny (model PySem.Challenge.rw_oj0021_01.row.prog w) (kA dp un gd env outer) (call (.ref 68) [v0, v1]) Q E s := by
  revert X; k_fill; intro X
  k_dflt (refine' call_cls ?k1 ?k2 ?k3 ?k4 ?k5 ?k6 ?_; (case k1 => exact F); (case k2 => exact X); (case k3 => exact N); (case k4 => k_is); (case k5 => k_is); (case k6 => k_is))
  intro x d h1 F1 N1 hlt hdx
  k_dflt (refine' code_def (binds := [(Str.ofString "self", .ref x), (Str.ofString "car", v0), (Str.ofString "cdr", v1)]) B F1 X N1 T ?kA ?kF ?kK ?k6 ?k7 ?k8 ?k9 ?kB ?_ ?c2 ?c3 ?c4 ?c5; (case kA => exact rfl); (case kF => exact hf); (case kK => exact hke); (case k6 => k_is); (case k7 => k_is); (case k8 => k_room); (case k9 => exact BindsTo.of_eq rfl); (case c5 => decide); (case kB => exact locs rfl); (case c2 => exact rfl); (case c3 => exact rfl); (case c4 => exact rfl))
  intro g' L' h' FG' F' N' B' X' T'
  have hne : ∀ q ∈ news, q.1 ≠ d := fun q hq => Nat.ne_of_lt (hlt q hq)
  have hxd : x ≠ d := Nat.ne_of_gt hdx
  try dsimp only
  try k_fold
  k_steps
  exact ret _ _ _ _ _ (by assumption) (by assumption)
set_option maxHeartbeats 8000000 in
theorem mk111_ok {w : World} {p : Program} {loose : List Str} {mean : ExcName → Option Value} {mg mb : Str → Option Value}
    {dp un : Nat} {gd : Option (List Code)} {env : Env} {outer : List Env} {A₀ : Around} {base h₀ : Heap} {L : Addr} {m : Str → Option Value} {news : List (Addr × Obj)} {s : Shared}
    {Q E : Value → Shared → Prop} {v0 : Value}
    (B : Below A₀ base outer h₀) (F : Fr h₀ L s.heap m) (X : (Mine.hd.heap_1 w.params).In h₀) (T : Top p loose mean mg mb h₀) (hf : env.frame = some L) (hke : env.scope.kind = .function)
    (N : News h₀ L s.heap news) (hdp : dp < 500)
    (ret : ∀ x d od h' tk', Fr h₀ L h' m → News h₀ L h' ((x, instObj 111 d) :: (d, od) :: news) → Q (.ref x) { s with heap := h', toks := tk' }) :
    wpAny (model PySem.Challenge.rw_oj0021_01.row.prog w) (kA dp un gd env outer) (call (.ref 111) [v0]) Q E s := by
  revert X; k_fill; intro X
  k_dflt (refine' call_cls ?k1 ?k2 ?k3 ?k4 ?k5 ?k6 ?_; (case k1 => exact F); (case k2 => exact X); (case k3 => exact N); (case k4 => k_is); (case k5 => k_is); (case k6 => k_is))
  intro x d h1 F1 N1 hlt hdx
  k_dflt (refine' code_def (binds := [(Str.ofString "self", .ref x), (Str.ofString "things", v0)]) B F1 X N1 T ?kA ?kF ?kK ?k6 ?k7 ?k8 ?k9 ?kB ?_ ?c2 ?c3 ?c4 ?c5; (case kA => exact rfl); (case kF => exact hf); (case kK => exact hke); (case k6 => k_is); (case k7 => k_is); (case k8 => k_room); (case k9 => exact BindsTo.of_eq rfl); (case c5 => decide); (case kB => exact locs rfl); (case c2 => exact rfl); (case c3 => exact rfl); (case c4 => exact rfl))
  intro g' L' h' FG' F' N' B' X' T'
  have hne : ∀ q ∈ news, q.1 ≠ d := fun q hq => Nat.ne_of_lt (hlt q hq)
  have hxd : x ≠ d := Nat.ne_of_gt hdx
  try dsimp only
  try k_fold
  k_steps
  exact ret _ _ _ _ _ (by assumption) (by assumption)
set_option maxHeartbeats 8000000 in
theorem mk132_ok {w : World} {p : Program} {loose : List Str} {mean : ExcName → Option Value} {mg mb : Str → Option Value}
    {dp un : Nat} {gd : Option (List Code)} {env : Env} {outer : List Env} {A₀ : Around} {base h₀ : Heap} {L : Addr} {m : Str → Option Value} {news : List (Addr × Obj)} {s : Shared}
    {Q E : Value → Shared → Prop} {v0 v1 v2 v3 v4 : Value}
    (B : Below A₀ base outer h₀) (F : Fr h₀ L s.heap m) (X : (Mine.hd.heap_1 w.params).In h₀) (T : Top p loose mean mg mb h₀) (hf : env.frame = some L) (hke : env.scope.kind = .function)
    (N : News h₀ L s.heap news) (hdp : dp < 500)
    (ret : ∀ x d od h' tk', Fr h₀ L h' m → News h₀ L h' ((x, instObj 132 d) :: (d, od) :: news) → Q (.ref x) { s with heap := h', toks := tk' }) :
    wpAny (model PySem.Challenge.rw_oj0021_01.row.prog w) (kA dp un gd env outer) (call (.ref 132) [v0, v1, v2, v3, v4]) Q E s := by
  revert X; k_fill; intro X
  k_dflt (refine' call_cls ?k1 ?k2 ?k3 ?k4 ?k5 ?k6 ?_; (case k1 => exact F); (case k2 => exact X); (case k3 => exact N); (case k4 => k_is); (case k5 => k_is); (case k6 => k_is))
  intro x d h1 F1 N1 hlt hdx
  k_dflt (refine' code_def (binds := [(Str.ofString "self", .ref x), (Str.ofString "number", v0), (Str.ofString "name", v1), (Str.ofString "least", v2), (Str.ofString "most", v3), (Str.ofString "deed", v4)]) B F1 X N1 T ?kA ?kF ?kK ?k6 ?k7 ?k8 ?k9 ?kB ?_ ?c2 ?c3 ?c4 ?c5; (case kA => exact rfl); (case kF => exact hf); (case kK => exact hke); (case k6 => k_is); (case k7 => k_is); (case k8 => k_room); (case k9 => exact BindsTo.of_eq rfl); (case c5 => decide); (case kB => exact locs rfl); (case c2 => exact rfl); (case c3 => exact rfl); (case c4 => exact rfl))
  intro g' L' h' FG' F' N' B' X' T'
  have hne : ∀ q ∈ news, q.1 ≠ d := fun q hq => Nat.ne_of_lt (hlt q hq)
  have hxd : x ≠ d := Nat.ne_of_gt hdx
  try dsimp only
  try k_fold
  k_steps
  exact ret _ _ _ _ _ (by assumption) (by assumption)
set_option maxHeartbeats 8000000 in
theorem mk153_ok {w : World} {p : Program} {loose : List Str} {mean : ExcName → Option Value} {mg mb : Str → Option Value}
    {dp un : Nat} {gd : Option (List Code)} {env : Env} {outer : List Env} {A₀ : Around} {base h₀ : Heap} {L : Addr} {m : Str → Option Value} {news : List (Addr × Obj)} {s : Shared}
    {Q E : Value → Shared → Prop} {v0 : Value}
    (B : Below A₀ base outer h₀) (F : Fr h₀ L s.heap m) (X : (Mine.hd.heap_1 w.params).In h₀) (T : Top p loose mean mg mb h₀) (hf : env.frame = some L) (hke : env.scope.kind = .function)
    (N : News h₀ L s.heap news) (hdp : dp < 500)
    (ret : ∀ x d od h' tk', Fr h₀ L h' m → News h₀ L h' ((x, instObj 153 d) :: (d, od) :: news) → Q (.ref x) { s with heap := h', toks := tk' }) :
    wpAny (model PySem.Challenge.rw_oj0021_01.row.prog w) (kA dp un gd env outer) (call (.ref 153) [v0]) Q E s := by
  revert X; k_fill; intro X
  k_dflt (refine' call_cls ?k1 ?k2 ?k3 ?k4 ?k5 ?k6 ?_; (case k1 => exact F); (case k2 => exact X); (case k3 => exact N); (case k4 => k_is); (case k5 => k_is); (case k6 => k_is))
  intro x d h1 F1 N1 hlt hdx
  k_dflt (refine' code_def (binds := [(Str.ofString "self", .ref x), (Str.ofString "things", v0)]) B F1 X N1 T ?kA ?kF ?kK ?k6 ?k7 ?k8 ?k9 ?kB ?_ ?c2 ?c3 ?c4 ?c5; (case kA => exact rfl); (case kF => exact hf); (case kK => exact hke); (case k6 => k_is); (case k7 => k_is); (case k8 => k_room); (case k9 => exact BindsTo.of_eq rfl); (case c5 => decide); (case kB => exact locs rfl); (case c2 => exact rfl); (case c3 => exact rfl); (case c4 => exact rfl))
  intro g' L' h' FG' F' N' B' X' T'
  have hne : ∀ q ∈ news, q.1 ≠ d := fun q hq => Nat.ne_of_lt (hlt q hq)
  have hxd : x ≠ d := Nat.ne_of_gt hdx
  try dsimp only
  try k_fold
  k_steps
  exact ret _ _ _ _ _ (by assumption) (by assumption)
set_option maxHeartbeats 8000000 in
theorem mk90_ok {w : World} {p : Program} {loose : List Str} {mean : ExcName → Option Value} {mg mb : Str → Option Value}
    {dp un : Nat} {gd : Option (List Code)} {env : Env} {outer : List Env} {A₀ : Around} {base h₀ : Heap} {L : Addr} {m : Str → Option Value} {news : List (Addr × Obj)} {s : Shared}
    {Q E : Value → Shared → Prop} {v0 : Value}
    (B : Below A₀ base outer h₀) (F : Fr h₀ L s.heap m) (X : (Mine.hd.heap_1 w.params).In h₀) (T : Top p loose mean mg mb h₀) (hf : env.frame = some L) (hke : env.scope.kind = .function)
    (N : News h₀ L s.heap news) (hdp : dp < 500)
    (ret : ∀ x d od h' tk', Fr h₀ L h' m → News h₀ L h' ((x, instObj 90 d) :: (d, od) :: news) → Q (.ref x) { s with heap := h', toks := tk' }) :
    wpAny (model PySem.Challenge.rw_oj0021_01.row.prog w) (kA dp un gd env outer) (call (.ref 90) [v0]) Q E s := by
  revert X; k_fill; intro X
  k_dflt (refine' call_cls ?k1 ?k2 ?k3 ?k4 ?k5 ?k6 ?_; (case k1 => exact F); (case k2 => exact X); (case k3 => exact N); (case k4 => k_is); (case k5 => k_is); (case k6 => k_is))
  intro x d h1 F1 N1 hlt hdx
  k_dflt (refine' code_def (binds := [(Str.ofString "self", .ref x), (Str.ofString "codes", v0), (Str.ofString "spans", .none)]) B F1 X N1 T ?kA ?kF ?kK ?k6 ?k7 ?k8 ?k9 ?kB ?_ ?c2 ?c3 ?c4 ?c5; (case kA => exact rfl); (case kF => exact hf); (case kK => exact hke); (case k6 => k_is); (case k7 => k_is); (case k8 => k_room); (case k9 => exact binds_K (by k_in) rfl (by k_is) rfl rfl rfl); (case c5 => decide); (case kB => exact locs rfl); (case c2 => exact rfl); (case c3 => exact rfl); (case c4 => exact rfl))
  intro g' L' h' FG' F' N' B' X' T'
  have hne : ∀ q ∈ news, q.1 ≠ d := fun q hq => Nat.ne_of_lt (hlt q hq)
  have hxd : x ≠ d := Nat.ne_of_gt hdx
  try dsimp only
  try k_fold
  k_steps
  exact ret _ _ _ _ _ (by assumption) (by assumption)
set_option maxHeartbeats 8000000 in
theorem mk188_ok {w : World} {A : Around} {h₀ : Heap} {L : Addr} {m : Str → Option Value} {news : List (Addr × Obj)} {s : Shared} {Q E : Value → Shared → Prop}
    (F : Fr h₀ L s.heap m) (X : (Mine.hd.heap_1 w.params).In h₀) (N : News h₀ L s.heap news)
    (ret : ∀ x d h' tk', Fr h₀ L h' m → News h₀ L h' ((x, instObj 188 d) :: (d, dictOf [] 0) :: news) → Q (.ref x) { s with heap := h', toks := tk' }) :
    wpAny (model PySem.Challenge.rw_oj0021_01.row.prog w) A (call (.ref 188) []) Q E s := by
  revert X; k_fill; intro X
  k_dflt (refine' call_cls0 ?k1 ?k2 ?k3 ?k4 ?k5 ?_; (case k1 => exact F); (case k2 => exact X); (case k3 => exact N); (case k4 => k_is); (case k5 => k_is))
  intro x d h1 F1 N1 _ _
  exact ret _ _ _ s.toks F1 N1
end Mine
namespace Mine
def classWords : List (Nat × Str) := [(38, Str.ofString "symbol"), (68, Str.ofString "cons"), (90, Str.ofString "string"), (111, Str.ofString "vector"), (132, Str.ofString "subr"), (153, Str.ofString "byte-code")]
/-- a thing and the word of its kind -/
inductive KindOk (led : List (Addr × Obj)) : Value → Str → Prop
  | nil : KindOk led (.ref 44) (Str.ofString "symbol")
  | t : KindOk led (.ref 47) (Str.ofString "symbol")
  | un : KindOk led (.ref 50) (Str.ofString "symbol")
  | inst {x d : Addr} {C : Nat} {od : Obj} {wd : Str} (h1 : (x, instObj C d) ∈ led) (h2 : (d, od) ∈ led) (h : (C, wd) ∈ classWords) : KindOk led (.ref x) wd
  | thing {x d : Addr} (h1 : (x, instObj 188 d) ∈ led) (h2 : (d, dictOf [] 0) ∈ led) : KindOk led (.ref x) (Str.ofString "thing")
  | int (i : Int) (t : Tok) : KindOk led (.int i t) (Str.ofString "integer")
theorem inst_ne {w : World} {g : Heap} {L : Addr} {h : Heap} {led : List (Addr × Obj)} (X : (Mine.hd.heap_1 w.params).In g) (N : News g L h led) {x : Addr} {o : Obj} (hm : (x, o) ∈ led) : x ≠ 44 := by
  rintro rfl
  exact heap44 X (N _ hm).2.2
theorem kind_is {w : World} {A : Around} {h₀ : Heap} {L : Addr} {m : Str → Option Value} {s : Shared} {E : Value → Shared → Prop} {Q : Value → Shared → Prop} {v : Value} {wd : Str} {led : List (Addr × Obj)}
    (F : Fr h₀ L s.heap m) (X : (Mine.hd.heap_1 w.params).In h₀) (N : News h₀ L s.heap led) (hv : KindOk led v wd) (h : Q (.bool (decide (v = .ref 44))) s) :
    wpAny (model PySem.Challenge.rw_oj0021_01.row.prog w) A (compareOp .Is v (.ref 44)) Q E s := by
  have X' := X.keeps F.keep
  have e44 : ∃ o, s.heap.get? 44 = some o ∧ o.cls = .ref 38 := ⟨_, X' 44 _ rfl, rfl⟩
  have e47 : ∃ o, s.heap.get? 47 = some o ∧ o.cls = .ref 38 := ⟨_, X' 47 _ rfl, rfl⟩
  have e50 : ∃ o, s.heap.get? 50 = some o ∧ o.cls = .ref 38 := ⟨_, X' 50 _ rfl, rfl⟩
  obtain ⟨o44, g44, _⟩ := e44
  cases hv with
  | nil =>
    rw [decide_eq_true rfl] at h
    exact wpAny_is_ref_self h
  | t =>
    obtain ⟨o, g, hc⟩ := e47
    rw [decide_eq_false (by decide)] at h
    exact wpAny_is_ref_other (by decide) g g44 (by rw [hc]; exact fun e => nomatch e) h
  | un =>
    obtain ⟨o, g, hc⟩ := e50
    rw [decide_eq_false (by decide)] at h
    exact wpAny_is_ref_other (by decide) g g44 (by rw [hc]; exact fun e => nomatch e) h
  | inst h1 h2 hC =>
    have hne := inst_ne X N h1
    rw [decide_eq_false (fun e => hne (by injection e))] at h
    exact wpAny_is_ref_other hne (N _ h1).1 g44 (fun e => nomatch e) h
  | thing h1 h2 =>
    have hne := inst_ne X N h1
    rw [decide_eq_false (fun e => hne (by injection e))] at h
    exact wpAny_is_ref_other hne (N _ h1).1 g44 (fun e => nomatch e) h
  | int i t =>
    rw [decide_eq_false (fun e => nomatch e)] at h
    exact wpAny_is_other rfl (fun e => nomatch e) h
theorem kind_isnot {w : World} {A : Around} {h₀ : Heap} {L : Addr} {m : Str → Option Value} {s : Shared} {E : Value → Shared → Prop} {Q : Value → Shared → Prop} {v : Value} {wd : Str} {led : List (Addr × Obj)}
    (F : Fr h₀ L s.heap m) (X : (Mine.hd.heap_1 w.params).In h₀) (N : News h₀ L s.heap led) (hv : KindOk led v wd) (h : Q (.bool (!decide (v = .ref 44))) s) :
    wpAny (model PySem.Challenge.rw_oj0021_01.row.prog w) A (compareOp .IsNot v (.ref 44)) Q E s := by
  have X' := X.keeps F.keep
  have e44 : ∃ o, s.heap.get? 44 = some o ∧ o.cls = .ref 38 := ⟨_, X' 44 _ rfl, rfl⟩
  have e47 : ∃ o, s.heap.get? 47 = some o ∧ o.cls = .ref 38 := ⟨_, X' 47 _ rfl, rfl⟩
  have e50 : ∃ o, s.heap.get? 50 = some o ∧ o.cls = .ref 38 := ⟨_, X' 50 _ rfl, rfl⟩
  obtain ⟨o44, g44, _⟩ := e44
  cases hv with
  | nil =>
    rw [decide_eq_true rfl] at h
    exact wpAny_isNot_ref_self h
  | t =>
    obtain ⟨o, g, hc⟩ := e47
    rw [decide_eq_false (by decide)] at h
    exact wpAny_isNot_ref_other (by decide) g g44 (by rw [hc]; exact fun e => nomatch e) h
  | un =>
    obtain ⟨o, g, hc⟩ := e50
    rw [decide_eq_false (by decide)] at h
    exact wpAny_isNot_ref_other (by decide) g g44 (by rw [hc]; exact fun e => nomatch e) h
  | inst h1 h2 hC =>
    have hne := inst_ne X N h1
    rw [decide_eq_false (fun e => hne (by injection e))] at h
    exact wpAny_isNot_ref_other hne (N _ h1).1 g44 (fun e => nomatch e) h
  | thing h1 h2 =>
    have hne := inst_ne X N h1
    rw [decide_eq_false (fun e => hne (by injection e))] at h
    exact wpAny_isNot_ref_other hne (N _ h1).1 g44 (fun e => nomatch e) h
  | int i t =>
    rw [decide_eq_false (fun e => nomatch e)] at h
    exact wpAny_isNot_other rfl (fun e => nomatch e) h
local macro_rules | `(tactic| k_mem) => `(tactic| assumption)
local macro_rules | `(tactic| k_all) => `(tactic| assumption)
local macro_rules | `(tactic| k_room) => `(tactic| ((try simp only [depth_under_make, depth_under_kw, depth_in1, depth_deeper, depth_caller]); (try dsimp only [kA, Around.deeper]); (simp only [recursionLimit]; omega)))
local macro_rules | `(tactic| walk_at "eval Name") => `(tactic| (k_here; k_dflt (refine' ld ?k1 ?k2 ?_; (case k1 => k_asm); (case k2 => first | exact rfl | assumption); k_whole)))
local macro_rules | `(tactic| walk_at "compareOp Is") => `(tactic| (k_here; (with_reducible show wpAny _ _ (compareOp CmpOp.Is _ (Value.ref 44)) _ _ _); k_dflt (refine' kind_is ?zF ?zX ?zN ?zk ?_; (case zF => k_asm); (case zX => assumption); (case zN => k_asm); (case zk => first | exact .nil | exact .t | exact .un | exact .int _ _ | exact .inst (by assumption) (by assumption) (by assumption)))))
local macro_rules | `(tactic| walk_at "compareOp Is ref ref") => `(tactic| (k_here; (with_reducible show wpAny _ _ (compareOp CmpOp.Is _ (Value.ref 44)) _ _ _); k_dflt (refine' kind_is ?zF ?zX ?zN ?zk ?_; (case zF => k_asm); (case zX => assumption); (case zN => k_asm); (case zk => first | exact .nil | exact .t | exact .un | exact .int _ _ | exact .inst (by assumption) (by assumption) (by assumption)))))
local macro_rules | `(tactic| walk_at "compareOp Is int ref") => `(tactic| (k_here; (with_reducible show wpAny _ _ (compareOp CmpOp.Is (Value.int _ _) (Value.ref 44)) _ _ _); refine wpAny_is_other rfl (fun e => nomatch e) ?_))
set_option maxHeartbeats 8000000 in
theorem kind_ok {w : World} {p : Program} {loose : List Str} {mean : ExcName → Option Value} {mg mb : Str → Option Value}
    {dp un : Nat} {gd : Option (List Code)} {env : Env} {outer : List Env} {A₀ : Around} {base h₀ : Heap} {L : Addr} {m : Str → Option Value} {news : List (Addr × Obj)} {s : Shared}
    {Q E : Value → Shared → Prop} {v : Value} {wd : Str}
    (B : Below A₀ base outer h₀) (F : Fr h₀ L s.heap m) (X : (Mine.hd.heap_1 w.params).In h₀) (T : Top p loose mean mg mb h₀) (hf : env.frame = some L) (hke : env.scope.kind = .function)
    (N : News h₀ L s.heap news) (hk : KindOk news v wd) (hdp : dp < 480)
    (ret : ∀ t h' tk', Fr h₀ L h' m → News h₀ L h' news → Q (.str wd t) { s with heap := h', toks := tk' }) :
    wpAny (model PySem.Challenge.rw_oj0021_01.row.prog w) (kA dp un gd env outer) (call (.ref 266) [v]) Q E s := by
  revert X; k_fill; intro X
  refine wpAny_call ?_
  k_dflt (refine' code_def (binds := [(Str.ofString "datum", v)]) B F X N T ?kA ?kF ?kK ?k6 ?k7 ?k8 ?k9 ?kB ?_ ?c2 ?c3 ?c4 ?c5; (case kA => exact rfl); (case kF => exact hf); (case kK => exact hke); (case k6 => k_is); (case k7 => k_is); (case k8 => (simp only [recursionLimit]; omega)); (case k9 => exact BindsTo.of_eq rfl); (case c5 => decide); (case kB => exact locs rfl); (case c2 => exact rfl); (case c3 => exact rfl); (case c4 => exact rfl))
  intro g' L' h' FG' F' N' B' X' T'
  try dsimp only
  try k_fold
  cases hk with
  | nil =>
    k_steps
    rename News h₀ L _ _ => N9
    exact ret _ _ _ (by assumption) N9
  | t =>
    k_steps
    rename News h₀ L _ _ => N9
    exact ret _ _ _ (by assumption) N9
  | un =>
    k_steps
    rename News h₀ L _ _ => N9
    exact ret _ _ _ (by assumption) N9
  | int i t =>
    k_steps
    rename News h₀ L _ _ => N9
    exact ret _ _ _ (by assumption) N9
  | thing h1 h2 =>
    k_steps
    rename News h₀ L _ _ => N9
    exact ret _ _ _ (by assumption) N9
  | inst h1 h2 hC =>
    simp only [classWords, List.mem_cons, List.not_mem_nil, or_false] at hC
    rcases hC with h | h | h | h | h | h <;> obtain ⟨rfl, rfl⟩ := Prod.mk.inj h
    · k_steps
      rename News h₀ L _ _ => N9
      exact ret _ _ _ (by assumption) N9
    · k_steps
      rename News h₀ L _ _ => N9
      exact ret _ _ _ (by assumption) N9
    · k_steps
      rename News h₀ L _ _ => N9
      exact ret _ _ _ (by assumption) N9
    · k_steps
      rename News h₀ L _ _ => N9
      exact ret _ _ _ (by assumption) N9
    · k_steps
      rename News h₀ L _ _ => N9
      exact ret _ _ _ (by assumption) N9
    · k_steps
      rename News h₀ L _ _ => N9
      exact ret _ _ _ (by assumption) N9
set_option maxHeartbeats 8000000 in
theorem issym_ok {w : World} {p : Program} {loose : List Str} {mean : ExcName → Option Value} {mg mb : Str → Option Value}
    {dp un : Nat} {gd : Option (List Code)} {env : Env} {outer : List Env} {A₀ : Around} {base h₀ : Heap} {L : Addr} {m : Str → Option Value} {news : List (Addr × Obj)} {s : Shared}
    {Q E : Value → Shared → Prop} {v : Value} {wd : Str}
    (B : Below A₀ base outer h₀) (F : Fr h₀ L s.heap m) (X : (Mine.hd.heap_1 w.params).In h₀) (T : Top p loose mean mg mb h₀) (hf : env.frame = some L) (hke : env.scope.kind = .function)
    (N : News h₀ L s.heap news) (hk : KindOk news v wd) (hdp : dp < 480)
    (ret : ∀  h' tk', Fr h₀ L h' m → News h₀ L h' news → Q (.bool (decide (wd = Str.ofString "symbol"))) { s with heap := h', toks := tk' }) :
    wpAny (model PySem.Challenge.rw_oj0021_01.row.prog w) (kA dp un gd env outer) (call (.ref 235) [v]) Q E s := by
  revert X; k_fill; intro X
  refine wpAny_call ?_
  k_dflt (refine' code_def (binds := [(Str.ofString "datum", v)]) B F X N T ?kA ?kF ?kK ?k6 ?k7 ?k8 ?k9 ?kB ?_ ?c2 ?c3 ?c4 ?c5; (case kA => exact rfl); (case kF => exact hf); (case kK => exact hke); (case k6 => k_is); (case k7 => k_is); (case k8 => (simp only [recursionLimit]; omega)); (case k9 => exact BindsTo.of_eq rfl); (case c5 => decide); (case kB => exact locs rfl); (case c2 => exact rfl); (case c3 => exact rfl); (case c4 => exact rfl))
  intro g' L' h' FG' F' N' B' X' T'
  try dsimp only
  try k_fold
  cases hk with
  | nil =>
    k_steps
    rename News h₀ L _ _ => N9
    exact ret _ _ (by assumption) N9
  | t =>
    k_steps
    rename News h₀ L _ _ => N9
    exact ret _ _ (by assumption) N9
  | un =>
    k_steps
    rename News h₀ L _ _ => N9
    exact ret _ _ (by assumption) N9
  | int i t =>
    k_steps
    rename News h₀ L _ _ => N9
    exact ret _ _ (by assumption) N9
  | thing h1 h2 =>
    k_steps
    rename News h₀ L _ _ => N9
    exact ret _ _ (by assumption) N9
  | inst h1 h2 hC =>
    simp only [classWords, List.mem_cons, List.not_mem_nil, or_false] at hC
    rcases hC with h | h | h | h | h | h <;> obtain ⟨rfl, rfl⟩ := Prod.mk.inj h
    · k_steps
      rename News h₀ L _ _ => N9
      exact ret _ _ (by assumption) N9
    · k_steps
      rename News h₀ L _ _ => N9
      exact ret _ _ (by assumption) N9
    · k_steps
      rename News h₀ L _ _ => N9
      exact ret _ _ (by assumption) N9
    · k_steps
      rename News h₀ L _ _ => N9
      exact ret _ _ (by assumption) N9
    · k_steps
      rename News h₀ L _ _ => N9
      exact ret _ _ (by assumption) N9
    · k_steps
      rename News h₀ L _ _ => N9
      exact ret _ _ (by assumption) N9
set_option maxHeartbeats 8000000 in
theorem iswhole_ok {w : World} {p : Program} {loose : List Str} {mean : ExcName → Option Value} {mg mb : Str → Option Value}
    {dp un : Nat} {gd : Option (List Code)} {env : Env} {outer : List Env} {A₀ : Around} {base h₀ : Heap} {L : Addr} {m : Str → Option Value} {news : List (Addr × Obj)} {s : Shared}
    {Q E : Value → Shared → Prop} {v : Value} {wd : Str}
    (B : Below A₀ base outer h₀) (F : Fr h₀ L s.heap m) (X : (Mine.hd.heap_1 w.params).In h₀) (T : Top p loose mean mg mb h₀) (hf : env.frame = some L) (hke : env.scope.kind = .function)
    (N : News h₀ L s.heap news) (hk : KindOk news v wd) (hdp : dp < 480)
    (ret : ∀  h' tk', Fr h₀ L h' m → News h₀ L h' news → Q (.bool (decide (wd = Str.ofString "integer"))) { s with heap := h', toks := tk' }) :
    wpAny (model PySem.Challenge.rw_oj0021_01.row.prog w) (kA dp un gd env outer) (call (.ref 221) [v]) Q E s := by
  revert X; k_fill; intro X
  refine wpAny_call ?_
  k_dflt (refine' code_def (binds := [(Str.ofString "datum", v)]) B F X N T ?kA ?kF ?kK ?k6 ?k7 ?k8 ?k9 ?kB ?_ ?c2 ?c3 ?c4 ?c5; (case kA => exact rfl); (case kF => exact hf); (case kK => exact hke); (case k6 => k_is); (case k7 => k_is); (case k8 => (simp only [recursionLimit]; omega)); (case k9 => exact BindsTo.of_eq rfl); (case c5 => decide); (case kB => exact locs rfl); (case c2 => exact rfl); (case c3 => exact rfl); (case c4 => exact rfl))
  intro g' L' h' FG' F' N' B' X' T'
  try dsimp only
  try k_fold
  cases hk with
  | nil =>
    k_steps
    rename News h₀ L _ _ => N9
    exact ret _ _ (by assumption) N9
  | t =>
    k_steps
    rename News h₀ L _ _ => N9
    exact ret _ _ (by assumption) N9
  | un =>
    k_steps
    rename News h₀ L _ _ => N9
    exact ret _ _ (by assumption) N9
  | int i t =>
    k_steps
    rename News h₀ L _ _ => N9
    exact ret _ _ (by assumption) N9
  | thing h1 h2 =>
    k_steps
    rename News h₀ L _ _ => N9
    exact ret _ _ (by assumption) N9
  | inst h1 h2 hC =>
    simp only [classWords, List.mem_cons, List.not_mem_nil, or_false] at hC
    rcases hC with h | h | h | h | h | h <;> obtain ⟨rfl, rfl⟩ := Prod.mk.inj h
    · k_steps
      rename News h₀ L _ _ => N9
      exact ret _ _ (by assumption) N9
    · k_steps
      rename News h₀ L _ _ => N9
      exact ret _ _ (by assumption) N9
    · k_steps
      rename News h₀ L _ _ => N9
      exact ret _ _ (by assumption) N9
    · k_steps
      rename News h₀ L _ _ => N9
      exact ret _ _ (by assumption) N9
    · k_steps
      rename News h₀ L _ _ => N9
      exact ret _ _ (by assumption) N9
    · k_steps
      rename News h₀ L _ _ => N9
      exact ret _ _ (by assumption) N9
local macro_rules | `(tactic| walk_at "compareOp IsNot") => `(tactic| (k_here; refine stop ?_))
set_option maxHeartbeats 8000000 in
theorem truth_ok {w : World} {p : Program} {loose : List Str} {mean : ExcName → Option Value} {mg mb : Str → Option Value}
    {dp un : Nat} {gd : Option (List Code)} {env : Env} {outer : List Env} {A₀ : Around} {base h₀ : Heap} {L : Addr} {m : Str → Option Value} {news : List (Addr × Obj)} {s : Shared}
    {Q E : Value → Shared → Prop} {v : Value} {wd : Str}
    (B : Below A₀ base outer h₀) (F : Fr h₀ L s.heap m) (X : (Mine.hd.heap_1 w.params).In h₀) (T : Top p loose mean mg mb h₀) (hf : env.frame = some L) (hke : env.scope.kind = .function)
    (N : News h₀ L s.heap news) (hk : KindOk news v wd) (hdp : dp < 480)
    (ret : ∀  h' tk', Fr h₀ L h' m → News h₀ L h' news → Q (.bool (!decide (v = .ref 44))) { s with heap := h', toks := tk' }) :
    wpAny (model PySem.Challenge.rw_oj0021_01.row.prog w) (kA dp un gd env outer) (call (.ref 242) [v]) Q E s := by
  revert X; k_fill; intro X
  refine wpAny_call ?_
  k_dflt (refine' code_def (binds := [(Str.ofString "datum", v)]) B F X N T ?kA ?kF ?kK ?k6 ?k7 ?k8 ?k9 ?kB ?_ ?c2 ?c3 ?c4 ?c5; (case kA => exact rfl); (case kF => exact hf); (case kK => exact hke); (case k6 => k_is); (case k7 => k_is); (case k8 => (simp only [recursionLimit]; omega)); (case k9 => exact BindsTo.of_eq rfl); (case c5 => decide); (case kB => exact locs rfl); (case c2 => exact rfl); (case c3 => exact rfl); (case c4 => exact rfl))
  intro g' L' h' FG' F' N' B' X' T'
  try dsimp only
  try k_fold
  k_steps
  refine unstop ?_
  refine kind_isnot (by assumption) X' (by assumption) hk ?_
  k_steps
  rename News h₀ L _ _ => N9
  exact ret _ _ (by assumption) N9
set_option maxHeartbeats 8000000 in
theorem islist2_ok {w : World} {p : Program} {loose : List Str} {mean : ExcName → Option Value} {mg mb : Str → Option Value}
    {dp un : Nat} {gd : Option (List Code)} {env : Env} {outer : List Env} {A₀ : Around} {base h₀ : Heap} {L : Addr} {m : Str → Option Value} {news : List (Addr × Obj)} {s : Shared}
    {Q E : Value → Shared → Prop} {v : Value} {wd : Str}
    (B : Below A₀ base outer h₀) (F : Fr h₀ L s.heap m) (X : (Mine.hd.heap_1 w.params).In h₀) (T : Top p loose mean mg mb h₀) (hf : env.frame = some L) (hke : env.scope.kind = .function)
    (N : News h₀ L s.heap news) (hk : KindOk news v wd) (hdp : dp < 480)
    (ret : ∀  h' tk', Fr h₀ L h' m → News h₀ L h' news → Q (.bool (decide (wd = Str.ofString "cons") || decide (v = .ref 44))) { s with heap := h', toks := tk' }) :
    wpAny (model PySem.Challenge.rw_oj0021_01.row.prog w) (kA dp un gd env outer) (call (.ref 228) [v]) Q E s := by
  revert X; k_fill; intro X
  refine wpAny_call ?_
  k_dflt (refine' code_def (binds := [(Str.ofString "datum", v)]) B F X N T ?kA ?kF ?kK ?k6 ?k7 ?k8 ?k9 ?kB ?_ ?c2 ?c3 ?c4 ?c5; (case kA => exact rfl); (case kF => exact hf); (case kK => exact hke); (case k6 => k_is); (case k7 => k_is); (case k8 => (simp only [recursionLimit]; omega)); (case k9 => exact BindsTo.of_eq rfl); (case c5 => decide); (case kB => exact locs rfl); (case c2 => exact rfl); (case c3 => exact rfl); (case c4 => exact rfl))
  intro g' L' h' FG' F' N' B' X' T'
  try dsimp only
  try k_fold
  cases hk with
  | nil =>
    k_steps
    rename News h₀ L _ _ => N9
    exact ret _ _ (by assumption) N9
  | t =>
    k_steps
    rename News h₀ L _ _ => N9
    exact ret _ _ (by assumption) N9
  | un =>
    k_steps
    rename News h₀ L _ _ => N9
    exact ret _ _ (by assumption) N9
  | int i t =>
    k_steps
    rename News h₀ L _ _ => N9
    exact ret _ _ (by assumption) N9
  | thing h1 h2 =>
    have hd := decide_eq_false (fun e : Value.ref _ = Value.ref 44 => inst_ne X N h1 (by injection e))
    simp only [hd] at ret
    k_steps
    rename News h₀ L _ _ => N9
    exact ret _ _ (by assumption) N9
  | inst h1 h2 hC =>
    have hd := decide_eq_false (fun e : Value.ref _ = Value.ref 44 => inst_ne X N h1 (by injection e))
    simp only [hd] at ret
    simp only [classWords, List.mem_cons, List.not_mem_nil, or_false] at hC
    rcases hC with h | h | h | h | h | h <;> obtain ⟨rfl, rfl⟩ := Prod.mk.inj h
    · k_steps
      rename News h₀ L _ _ => N9
      exact ret _ _ (by assumption) N9
    · k_steps
      rename News h₀ L _ _ => N9
      exact ret _ _ (by assumption) N9
    · k_steps
      rename News h₀ L _ _ => N9
      exact ret _ _ (by assumption) N9
    · k_steps
      rename News h₀ L _ _ => N9
      exact ret _ _ (by assumption) N9
    · k_steps
      rename News h₀ L _ _ => N9
      exact ret _ _ (by assumption) N9
    · k_steps
      rename News h₀ L _ _ => N9
      exact ret _ _ (by assumption) N9
end Mine
namespace Mine
def Pot4 (g : Heap) (L : Addr) (h : Heap) : Prop :=
  ∃ m pa ca ys ns seed t1 t2 n, Fr g L h m ∧ m (Str.ofString "pot") = some (.ref pa) ∧ News g L h [(pa, W.listOf #[.ref ca, .int 0 t1, .int seed t2] n), (ca, LCg.lst ys)] ∧ IntsAre ys ns ∧ ns.length ≤ 48 ∧ 0 ≤ seed ∧ seed < 100000 ∧ ca ≠ pa
theorem news_nil {g h : Heap} {L : Addr} {nx : List (Addr × Obj)} (zN0 : News g L h nx) : News g L h [] := fun _ hq => nomatch hq
theorem KindOk.mono {led led' : List (Addr × Obj)} {v : Value} {wd : Str} (h : KindOk led v wd) (hs : ∀ q ∈ led, q ∈ led') : KindOk led' v wd := by
  cases h with
  | nil => exact .nil
  | t => exact .t
  | un => exact .un
  | inst h1 h2 hC => exact .inst (hs _ h1) (hs _ h2) hC
  | thing h1 h2 => exact .thing (hs _ h1) (hs _ h2)
  | int i t => exact .int i t
def RowOk (led : List (Addr × Obj)) (v : Value) : Prop := ∃ T th wd t, v = .ref T ∧ (T, tupOf #[th, .str wd t]) ∈ led ∧ KindOk led th wd
def RowsAt (g : Heap) (L : Addr) (h : Heap) : Prop :=
  ∃ m led ra vs c, Fr g L h m ∧ m (Str.ofString "rows") = some (.ref ra) ∧ News g L h led ∧ (ra, W.listOf (List.toArray vs) c) ∈ led ∧ ∀ v ∈ vs, RowOk led v
theorem law_post (ns : List Int) : PySem.Challenge.rw_oj0021_01.row.claim.post [ofPy (PyData.list (List.map PyData.int ns))] (.bool true) [ofPy (PyData.list (List.map PyData.int ns))] = true := by
  wrow_post
theorem seed0 (x : Int) : 0 ≤ 239 + x.fmod 65519 := by
  have := Int.fmod_nonneg_of_pos (b := 65519) x (by decide)
  omega
theorem seed1 (x : Int) : 239 + x.fmod 65519 < 100000 := by
  have := Int.fmod_lt_of_pos (b := 65519) x (by decide)
  omega
local macro_rules | `(tactic| walk_at "call ref") => `(tactic| (k_here; (with_reducible show wpAny _ _ (call (Value.ref 290) _ _) _ _ _); refine stop ?_))
local macro_rules | `(tactic| walk_at "call ref") => `(tactic| (k_here; (with_reducible show wpAny _ _ (call (Value.ref 295) _ _) _ _ _); refine stop ?_))
local macro_rules | `(tactic| walk_at "pyIter ref") => `(tactic| (k_here; (with_reducible show wpAny _ _ (pyIter (Value.ref _)) (fun it s₂ => LoopAtV _ _ _ _ _ _ _ _ _ it s₂) _ _); refine stop ?_))
local macro_rules | `(tactic| walk_at "call ref") => `(tactic| (k_here; (with_reducible show wpAny _ _ (call (Value.ref 38) _ _) _ _ _); k_dflt (refine' mk38_ok ?yB ?yF ?yX ?yT ?ya ?yb ?yN ?yd ?_; (case yB => assumption); (case yF => k_asm); (case yX => assumption); (case yT => assumption); (case ya => rfl); (case yb => rfl); (case yN => k_asm); (case yd => decide)); intro xM dM oM hM tkM FM NM))
local macro_rules | `(tactic| walk_at "call ref") => `(tactic| (k_here; (with_reducible show wpAny _ _ (call (Value.ref 68) _ _) _ _ _); k_dflt (refine' mk68_ok ?yB ?yF ?yX ?yT ?ya ?yb ?yN ?yd ?_; (case yB => assumption); (case yF => k_asm); (case yX => assumption); (case yT => assumption); (case ya => rfl); (case yb => rfl); (case yN => k_asm); (case yd => decide)); intro xM dM oM hM tkM FM NM))
local macro_rules | `(tactic| walk_at "call ref") => `(tactic| (k_here; (with_reducible show wpAny _ _ (call (Value.ref 90) _ _) _ _ _); k_dflt (refine' mk90_ok ?yB ?yF ?yX ?yT ?ya ?yb ?yN ?yd ?_; (case yB => assumption); (case yF => k_asm); (case yX => assumption); (case yT => assumption); (case ya => rfl); (case yb => rfl); (case yN => k_asm); (case yd => decide)); intro xM dM oM hM tkM FM NM))
local macro_rules | `(tactic| walk_at "call ref") => `(tactic| (k_here; (with_reducible show wpAny _ _ (call (Value.ref 111) _ _) _ _ _); k_dflt (refine' mk111_ok ?yB ?yF ?yX ?yT ?ya ?yb ?yN ?yd ?_; (case yB => assumption); (case yF => k_asm); (case yX => assumption); (case yT => assumption); (case ya => rfl); (case yb => rfl); (case yN => k_asm); (case yd => decide)); intro xM dM oM hM tkM FM NM))
local macro_rules | `(tactic| walk_at "call ref") => `(tactic| (k_here; (with_reducible show wpAny _ _ (call (Value.ref 132) _ _) _ _ _); k_dflt (refine' mk132_ok ?yB ?yF ?yX ?yT ?ya ?yb ?yN ?yd ?_; (case yB => assumption); (case yF => k_asm); (case yX => assumption); (case yT => assumption); (case ya => rfl); (case yb => rfl); (case yN => k_asm); (case yd => decide)); intro xM dM oM hM tkM FM NM))
local macro_rules | `(tactic| walk_at "call ref") => `(tactic| (k_here; (with_reducible show wpAny _ _ (call (Value.ref 153) _ _) _ _ _); k_dflt (refine' mk153_ok ?yB ?yF ?yX ?yT ?ya ?yb ?yN ?yd ?_; (case yB => assumption); (case yF => k_asm); (case yX => assumption); (case yT => assumption); (case ya => rfl); (case yb => rfl); (case yN => k_asm); (case yd => decide)); intro xM dM oM hM tkM FM NM))
local macro_rules | `(tactic| walk_at "call ref") => `(tactic| (k_here; (with_reducible show wpAny _ _ (call (Value.ref 188) _ _) _ _ _); k_dflt (refine' mk188_ok ?yF ?yX ?yN ?_; (case yF => k_asm); (case yX => assumption); (case yN => k_asm)); intro xM dM hM tkM FM NM))
local macro_rules | `(tactic| walk_at "callWith ref") => `(tactic| (k_here; (with_reducible show wpAny _ _ (callWith _ (Value.ref _) _ (backTo _ (starEach [] _)) []) _ _ _); k_dflt (refine' callWith_K0 ?yX ?yk ?_; (case yX => ((with_reducible rename Fr _ _ _ _ => kF9); (with_reducible rename Frag.In _ _ => kX9); exact Frag.In.keeps kX9 kF9.keep)); (case yk => k_is)); (try dsimp only [List.nil_append, List.cons_append])))
local macro_rules | `(tactic| walk_at "callWith") => `(tactic| (k_here; (with_reducible show wpAny _ _ (callWith _ (Prod.fst _) _ _ _) _ _ _); dsimp only))
local macro_rules | `(tactic| walk_at "callWith ref nil nil") => `(tactic| (k_here; (with_reducible show wpAny _ _ (callWith _ (Value.ref _) _ (backTo _ (starEach [] _)) []) _ _ _); k_dflt (refine' callWith_K0 ?yX ?yk ?_; (case yX => ((with_reducible rename Fr _ _ _ _ => kF9); (with_reducible rename Frag.In _ _ => kX9); exact Frag.In.keeps kX9 kF9.keep)); (case yk => k_is)); (try dsimp only [List.nil_append, List.cons_append])))
local macro_rules | `(tactic| walk_at "pyIter ref") => `(tactic| (k_here; (with_reducible show wpAny _ _ (pyIter (Value.ref _)) (fun it s₂ => TurnsAt _ _ _ _ _ _ _ _ _ it s₂) _ _); refine stop ?_))
local macro_rules | `(tactic| walk_at "exec For Tuple Name cons nil") => `(tactic| (k_here; refine stop ?_))
local macro_rules | `(tactic| walk_at "call ref") => `(tactic| (k_here; (with_reducible show wpAny _ _ (call (Value.ref 266) _ _) _ _ _); k_dflt (refine' kind_ok ?yB ?yF ?yX ?yT ?ya ?yb ?yN ?yk ?yd ?_; (case yB => assumption); (case yF => k_asm); (case yX => assumption); (case yT => assumption); (case ya => rfl); (case yb => rfl); (case yN => k_asm); (case yk => assumption); (case yd => decide)); intro t9 h9 tk9 F9 N9))
local macro_rules | `(tactic| walk_at "call ref") => `(tactic| (k_here; (with_reducible show wpAny _ _ (call (Value.ref 235) _ _) _ _ _); k_dflt (refine' issym_ok ?yB ?yF ?yX ?yT ?ya ?yb ?yN ?yk ?yd ?_; (case yB => assumption); (case yF => k_asm); (case yX => assumption); (case yT => assumption); (case ya => rfl); (case yb => rfl); (case yN => k_asm); (case yk => assumption); (case yd => decide)); intro h9 tk9 F9 N9))
local macro_rules | `(tactic| walk_at "call ref") => `(tactic| (k_here; (with_reducible show wpAny _ _ (call (Value.ref 221) _ _) _ _ _); k_dflt (refine' iswhole_ok ?yB ?yF ?yX ?yT ?ya ?yb ?yN ?yk ?yd ?_; (case yB => assumption); (case yF => k_asm); (case yX => assumption); (case yT => assumption); (case ya => rfl); (case yb => rfl); (case yN => k_asm); (case yk => assumption); (case yd => decide)); intro h9 tk9 F9 N9))
local macro_rules | `(tactic| walk_at "call ref") => `(tactic| (k_here; (with_reducible show wpAny _ _ (call (Value.ref 242) _ _) _ _ _); k_dflt (refine' truth_ok ?yB ?yF ?yX ?yT ?ya ?yb ?yN ?yk ?yd ?_; (case yB => assumption); (case yF => k_asm); (case yX => assumption); (case yT => assumption); (case ya => rfl); (case yb => rfl); (case yN => k_asm); (case yk => assumption); (case yd => decide)); intro h9 tk9 F9 N9))
local macro_rules | `(tactic| walk_at "call ref") => `(tactic| (k_here; (with_reducible show wpAny _ _ (call (Value.ref 228) _ _) _ _ _); k_dflt (refine' islist2_ok ?yB ?yF ?yX ?yT ?ya ?yb ?yN ?yk ?yd ?_; (case yB => assumption); (case yF => k_asm); (case yX => assumption); (case yT => assumption); (case ya => rfl); (case yb => rfl); (case yN => k_asm); (case yk => assumption); (case yd => decide)); intro h9 tk9 F9 N9))
local macro_rules | `(tactic| walk_at "compareOp Eq str str") => `(tactic| (k_here; refine stop ?_))
local macro_rules | `(tactic| walk_at "compareOp NotEq str str") => `(tactic| (k_here; refine stop ?_))
local macro_rules | `(tactic| walk_at "compareOp NotEq bool bool") => `(tactic| (k_here; refine stop ?_))
local macro_rules | `(tactic| walk_at "compareOp IsNot") => `(tactic| (k_here; refine stop ?_))
local macro_rules | `(tactic| walk_at "compareOp Is") => `(tactic| (k_here; refine stop ?_))
local macro_rules | `(tactic| walk_at "compareOp Is ref ref") => `(tactic| (k_here; refine wpAny_is_ref_self ?_))
local macro_rules | `(tactic| walk_at "eval Name") => `(tactic| (k_here; k_dflt (refine' ld ?k1 ?k2 ?_; (case k1 => k_asm); (case k2 => first | exact rfl | assumption); k_whole)))
-- names taken ahead, so that the head lays no twin of the aggregates (NOTES: Hand-in)
def law_holds.tw357486453476387696 : Unit := ()
def law_holds.tw9644448396038729961 : Unit := ()
def law_holds.tw14150452598383663058 : Unit := ()
def law_holds.tw7320349236381187405 : Unit := ()
def law_holds.tw17898386970248378688 : Unit := ()
def law_holds.tw1298917362307582566 : Unit := ()
def law_holds.tw9475112828220192266 : Unit := ()
def law_holds.tw3801589014035127680 : Unit := ()
def law_holds.tw11245189051238082039 : Unit := ()
def law_holds.tw16869599502669767113 : Unit := ()
def law_holds.tw3395247381137650583 : Unit := ()
set_option Elab.async true in
set_option maxHeartbeats 8000000 in
theorem law_holds : PySem.Challenge.rw_oj0021_01.Holds := by
  w_on
  o_law
  o_head (kHook hd.heap_1 [2, 3, 15, 17, 18, 20, 21, 29, 31, 32, 34, 35, 36, 37, 38, 39, 40, 43, 44, 46, 47, 49, 50, 59, 61, 62, 64, 65, 66, 67, 68, 69, 70, 80, 81, 83, 84, 86, 87, 88, 89, 90, 91, 92, 102, 104, 105, 107, 108, 109, 110, 111, 112, 113, 123, 125, 126, 128, 129, 130, 131, 132, 133, 134, 144, 146, 147, 149, 150, 151, 152, 153, 154, 155, 165, 167, 168, 170, 171, 172, 174, 175, 177, 178, 179, 181, 182, 184, 185, 186, 187, 188, 189, 190, 193, 194, 196, 197, 199, 200, 201, 203, 204, 206, 207, 208, 210, 211, 213, 214, 215, 217, 218, 220, 221, 222, 224, 225, 227, 228, 229, 231, 232, 234, 235, 236, 238, 239, 241, 242, 243, 245, 246, 248, 249, 250, 253, 254, 255, 258, 259, 260, 262, 263, 265, 266, 267, 270, 271, 272, 274, 275, 277, 278, 279, 282, 283, 284, 286, 287, 289, 290, 291, 294, 295, 296, 298, 299, 301, 302] (fun _ => by kernel_rfl))
  (case hw => w_witness2)
  k_go0
  (all_goals try k_fold)
  k_steps
  refine unstop ?_
  rename IsRange _ _ _ _ _ _ _ _ => R1
  rename Fr _ _ _ _ => F1
  rename News _ _ _ _ => N1
  rename IntsAre _ (List.map _ _) => hI8
  have H : Pot4 _ _ _ := ⟨_, _, _, _, _, _, _, _, _, F1, rfl, (fun q hq => N1 q (by
    rcases List.mem_cons.mp hq with h | hq
    · exact h ▸ List.Mem.head _
    rcases List.mem_cons.mp hq with h | hq
    · exact h ▸ List.Mem.tail _ (List.Mem.head _)
    cases hq)), hI8, (by rw [List.length_map]; exact List.length_take_le _ _), seed0 _, seed1 _, (by k_ne)⟩
  obtain ⟨m0, pa, ca, ys, ns, seed, t1, t2, n0, F2, hpot, N2, I2, hnl, hs0, hs1, hne⟩ := H
  clear F1 N1 hI8
  rename Below callerA _ [] _ => K0
  refine range_inv (fun i m1 nx => ∃ o, m1 (Str.ofString "pot") = some (.ref pa) ∧ nx = [(pa, o), (ca, LCg.lst ys)] ∧ PotObj ca (18 * i) o) (n := 4) rfl R1 (by decide) (by rfl) F2 N2 ?_ ?_ ?_
  · exact ⟨_, hpot, rfl, 0, seed, t1, t2, n0, rfl, by omega, by omega, hs0, hs1⟩
  · rintro I it i m1 nx t h tk hi hoff ⟨o, hpo, rfl, hP⟩ F3 N3
    have hIne : I ≠ pa := fun e => hoff _ (.head _) e.symm
    k_steps
    refine unstop ?_
    have hsep : ∀ q ∈ [(I, it), (ca, LCg.lst ys)], q.1 ≠ pa := by
      intro q hq
      rcases List.mem_cons.mp hq with rfl | hq
      · exact hIne
      rcases List.mem_cons.mp hq with rfl | hq
      · exact hne
      cases hq
    have hC : PotCells ca [(I, it), (ca, LCg.lst ys)] := ⟨ys, ns, ys.length, .tail _ (.head _), I2, hnl⟩
    rename Fr _ _ _ _ => F4
    rename News _ _ _ _ => N4
    have N5 : News _ _ _ ((pa, o) :: [(I, it), (ca, LCg.lst ys)]) := fun q hq => N4 q (by
      rcases List.mem_cons.mp hq with h | hq
      · exact h ▸ List.Mem.tail _ (List.Mem.head _)
      rcases List.mem_cons.mp hq with h | hq
      · exact h ▸ List.Mem.head _
      exact List.Mem.tail _ (List.Mem.tail _ hq))
    k_dflt (refine' sright_ok K0 F4 ?zX ?zT ?za ?zb N5 hP hC hsep ?zk ?zd ?zu ?_; (case zX => assumption); (case zT => assumption); (case za => rfl); (case zb => rfl); (case zk => omega); (case zd => decide); (case zu => decide))
    intro o2 h5 tk5 hP2 F5 N6
    clear N4 N5 F4
    k_steps
    refine unstop ?_
    rename Fr _ _ _ _ => F4
    k_dflt (refine' codes_ok K0 F4 ?zX ?zT ?za ?zb N6 hP2 hC hsep ?zk ?zd ?zu ?_; (case zX => assumption); (case zT => assumption); (case za => rfl); (case zb => rfl); (case zk => omega); (case zd => decide); (case zu => decide))
    intro o3 h6 tk6 hP3 F7 N7
    clear F4 N6
    k_steps
    refine ⟨h6, tk6, _, [(pa, o3), (ca, LCg.lst ys)], rfl, F7, fun q hq => N7 q ?_, ?_, o3, hpo, rfl, hP3.mono (by omega)⟩
    · rcases List.mem_cons.mp hq with h | hq
      · exact h ▸ List.Mem.tail _ (List.Mem.head _)
      rcases List.mem_cons.mp hq with h | hq
      · exact h ▸ List.Mem.head _
      exact List.Mem.tail _ (List.Mem.tail _ hq)
    · intro q hq
      rcases List.mem_cons.mp hq with rfl | hq
      · exact fun e => hIne e.symm
      exact hoff q (.tail _ hq)
  · rintro m1 nx h tk ⟨o, hpo, rfl, hP⟩ F3 N3
    replace N3 := news_nil N3
    dsimp only
    k_steps
    refine unstop ?_
    rename Fr _ _ _ _ => F4
    rename News _ _ _ _ => N4
    have H : RowsAt _ _ _ := ⟨_, _, _, _, _, F4, rfl, N4, List.Mem.head _, by
      repeat (refine List.forall_mem_cons.mpr ⟨⟨_, _, _, _, rfl, (by k_mem), (by first | exact .nil | exact .t | exact .un | exact .int _ _ | exact .inst (by k_mem) (by k_mem) (by decide) | exact .thing (by k_mem) (by k_mem))⟩, ?_⟩)
      exact fun _ hq => nomatch hq⟩
    clear F4 N4
    obtain ⟨m2, led, ra, vs, cr, F5, hrow, N5, hra, hall⟩ := H
    k_dflt (refine For_turns F5 ?_)
    k_steps
    refine unstop ?_
    refine iter_listTurns (lo := W.listOf vs.toArray cr) (vs := vs) rfl (by assumption) N5 hra rfl rfl fun I hI => ?_
    refine' (?_ : ∀ (vs : List Value) (m3 : Str → Option Value), (∀ v ∈ vs, RowOk led v) → ItemsRest _ _ _ _ _ _ _ _ _ _ _ _ (vs.map .val) m3 led) vs _ hall
    intro vs
    induction vs with
    | nil =>
      intro m3 _
      refine ItemsRest.zero ?_
      intro h6 tk6 F6 N6
      dsimp only
      k_steps
      refine unstop ?_
      refine PyProof.Rows.eq_str ?_
      rw [beq_self_eq_true]
      (with_reducible rename Fr _ _ _ _ => Fz)
      (with_reducible rename Shared.gens _ = _ => hgz)
      refine' goodW_bool ?oF ?oG (raisesW_false ?oR) ?oP ?oS
      case oS => exact rfl
      case oG => exact hgz
      case oR => wrow_none_raised
      case oP => exact law_post _
      case oF => exact Fz
    | cons v vs ih =>
      intro m3 hall
      obtain ⟨T, th, wd, tt, rfl, hT, hk⟩ := hall _ (.head _)
      have hall' : ∀ v ∈ vs, RowOk led v := fun v hv => hall v (.tail _ hv)
      refine ItemsRest.val fun h6 tk6 F6 => ?_
      refine AllObj.cons fun oI hcI => ?_
      refine AllObj.nil fun N6 => ?_
      simp only [List.cons_append, List.nil_append] at N6
      replace hk : KindOk ((I, oI) :: led) th wd := hk.mono fun q hq => .tail _ hq
      replace hT : (T, tupOf #[th, .str wd tt]) ∈ (I, oI) :: led := .tail _ hT
      k_steps
      refine unstop ?_
      refine PyProof.Rows.ne_str ?_
      rw [bne_self_eq_false]
      k_steps
      refine unstop ?_
      refine PyProof.Rows.eq_str ?_
      k_steps
      refine unstop ?_
      refine ne_bool ?_
      rw [show (wd == Str.ofString "symbol") = decide (wd = Str.ofString "symbol") from rfl, bne_self_eq_false]
      k_steps
      refine unstop ?_
      refine PyProof.Rows.eq_str ?_
      k_steps
      refine unstop ?_
      refine ne_bool ?_
      rw [show (wd == Str.ofString "integer") = decide (wd = Str.ofString "integer") from rfl, bne_self_eq_false]
      k_steps
      refine unstop ?_
      (with_reducible rename Fr _ _ _ _ => Fy)
      (with_reducible rename News _ _ _ _ => Ny)
      refine kind_isnot Fy (by assumption) Ny hk ?_
      k_steps
      refine unstop ?_
      refine ne_bool ?_
      rw [bne_self_eq_false]
      k_steps
      refine unstop ?_
      refine PyProof.Rows.eq_str ?_
      by_cases hwc : wd = Str.ofString "cons"
      · rw [show (wd == Str.ofString "cons") = true from decide_eq_true hwc]
        k_steps
        refine unstop ?_
        refine ne_bool ?_
        rw [decide_eq_true hwc, Bool.true_or, bne_self_eq_false]
        k_steps
        (with_reducible rename Fr _ _ _ _ => Fw)
        (with_reducible rename News _ _ _ _ => Nw)
        refine ⟨_, _, _, led, rfl, Fw, Nw, fun p hp q hq => ?_, ⟨hra, trivial⟩, ih _ hall'⟩
        rw [List.mem_singleton.mp hq]
        exact Nat.ne_of_lt (hI p hp)
      · rw [show (wd == Str.ofString "cons") = false from decide_eq_false hwc]
        k_steps
        refine unstop ?_
        (with_reducible rename Fr _ _ _ _ => Fx)
        (with_reducible rename News _ _ _ _ => Nx)
        refine kind_is Fx (by assumption) Nx hk ?_
        k_steps
        refine unstop ?_
        refine ne_bool ?_
        rw [decide_eq_false hwc, Bool.false_or, bne_self_eq_false]
        k_steps
        (with_reducible rename Fr _ _ _ _ => Fw)
        (with_reducible rename News _ _ _ _ => Nw)
        refine ⟨_, _, _, led, rfl, Fw, Nw, fun p hp q hq => ?_, ⟨hra, trivial⟩, ih _ hall'⟩
        rw [List.mem_singleton.mp hq]
        exact Nat.ne_of_lt (hI p hp)
end Mine
theorem PySem.Challenge.cw_oj0021_01_holds : PySem.Challenge.rw_oj0021_01.Holds :=
  Mine.law_holds
