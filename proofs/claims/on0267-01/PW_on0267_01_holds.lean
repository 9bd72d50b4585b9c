import PyProof.Rows.All
import Wide.All
import OpenK.AllK
import Wide.FinOn
import Lean
import PySem.Challenge.RW_on0267_01
open PySem PySem.W PyProof.Rows
set_option Elab.async false
set_option maxRecDepth 100000
set_option maxHeartbeats 8000000
set_option linter.all false
set_option genInjectivity false
set_option genSizeOf false
namespace Mine
noncomputable def topRunT (tb : String → Option Builtin) (p : Program) (w : World) (n₀ : Nat) (ann : Option Value) : Nat → SharedT → Thread → Option SharedT
  | 0, _, _ => none
  | n + 1, s, t => match through t with
    | true => some s
    | false => match stepOk n₀ ann t with
      | false => none
      | true => match stepT (denote tb) p w s t with
        | some (s', t') => topRunT tb p w n₀ ann n s' t'
        | none => none
theorem topRun_of {tb : String → Option Builtin} {p : Program} {w : World} {n₀ : Nat} {ann : Option Value} : ∀ {n : Nat} {s s' : SharedT} {t : Thread}, topRunT tb p w n₀ ann n s t = some s' → topRun tb p w n₀ ann n s.abs t = some s'.abs
  | 0, _, _, _, h => by cases h
  | n + 1, s, s', t, h => by
    unfold topRunT at h
    unfold topRun
    cases he : through t with
    | true => rw [he] at h; cases h; rfl
    | false =>
      rw [he] at h
      cases hk : stepOk n₀ ann t with
      | false => rw [hk] at h; cases h
      | true =>
        rw [hk] at h
        cases hs : stepT (denote tb) p w s t with
        | none => rw [hs] at h; cases h
        | some r => obtain ⟨s₂, t₂⟩ := r; rw [hs] at h; rw [stepT_spec hs]; exact topRun_of h
noncomputable def plant : List Obj → Nat → BT → BT
  | [], _, t => t
  | o :: l, n, t => plant l (n + 1) (t.ins n o)
noncomputable def bootT (P : Params) (os : OsState) : SharedT := ⟨plant (boot_heap P).objs.toList 0 .nil, (boot_heap P).objs.size, (boot_heap P).life, Array.mk [], boot_drawn, boot_toks, os⟩
theorem bootT_abs : ∀ P, absHeap (plant (boot_heap P).objs.toList 0 .nil) (boot_heap P).objs.size (boot_heap P).life = boot_heap P := by intro P; kernel_rfl
theorem left_tree {p q : Program} {loose : List Str} {Xt : Shared → Bool} {α : Type} {Yf : Shared → α} {Ya : World → α} {N m₀ : Nat} {ann : Option Value} (e : opening p = plainProg p.main.scope.names) (hN : Nat.ble 600 N = true) (f : ∀ s, fenceModules? p s = some s)
    (size : ∀ w : World, ((boot_heap w.params).isNs mainGlobals && (Array.mk ([] : List GenState)).size == 0, (boot_heap w.params).objs.size, (boot_heap w.params).nsMap mainGlobals "__annotations__") = (true, m₀, ann))
    (h : ∀ w : World, (fun os => (topRunT treeTable p w m₀ ann N (bootT w.params os) (topStub p)).map (fun r => ((staticsOk (importedModules p.main.body) (boot_heap w.params) r.abs.heap && namesBound p r.abs.heap && gensDone r.abs && laidKept (boot_heap w.params) r.abs.heap), openSeen q loose (importedModules p.main.body) Xt true r.abs, Yf r.abs))) = fun _ => some (true, openGood q loose, Ya w)) : LeftO p q loose Xt Yf Ya N := fun w => by
  obtain ⟨⟨hp, gs, d, k, os⟩, e1, e2⟩ := Option.map_eq_some_iff.mp (boot_open e hN f w)
  obtain ⟨rfl, rfl, rfl, rfl⟩ : hp = boot_heap w.params ∧ gs = Array.mk [] ∧ d = boot_drawn ∧ k = boot_toks := by simpa using e2
  obtain ⟨z1, z2, z3⟩ : _ ∧ _ ∧ _ := by simpa only [Prod.mk.injEq] using size w
  obtain ⟨r, r1, r2⟩ := Option.map_eq_some_iff.mp (congrFun (h w) os)
  obtain ⟨l1, l2, l3⟩ : _ ∧ _ ∧ _ := by simpa only [Prod.mk.injEq] using r2
  have r3 := topRun_of r1
  have hb : (bootT w.params os).abs = ⟨boot_heap w.params, Array.mk [], boot_drawn, boot_toks, os⟩ := congrArg (fun h => (⟨h, Array.mk [], boot_drawn, boot_toks, os⟩ : Shared)) (bootT_abs w.params)
  rw [hb] at r3
  have t : topFrom treeTable p w N ⟨boot_heap w.params, Array.mk [], boot_drawn, boot_toks, os⟩ = some r.abs := by
    unfold topFrom
    dsimp only
    rw [z1, z2, z3, r3]
    show (match staticsOk (importedModules p.main.body) (boot_heap w.params) r.abs.heap && namesBound p r.abs.heap && gensDone r.abs && laidKept (boot_heap w.params) r.abs.heap with | true => _ | false => _) = _
    rw [l1]
  unfold openEnds
  rw [e1]
  show (topFrom treeTable p w N _).map _ = _
  rw [t]
  exact congrArg some (Prod.ext l2 l3)
noncomputable def view : Program := PySem.W.view PySem.Challenge.rw_on0267_01.row.toRowW.prog [0, 2, 3, 4, 5, 7, 8, 9, 10, 11, 12, 13, 14, 15, 17, 18, 19, 20, 21, 22, 23, 24]
theorem oH (H : Hook) {d : DefRec} {kwd : List (Str × Expr)}
    (left : LeftO PySem.Challenge.rw_on0267_01.row.prog view [PySem.Str.ofString "PostError"] (fun s => xlAt view [] s && recOk (RowW.records PySem.Challenge.rw_on0267_01.row.toRowW) s) H.obs H.val 6504)
    (hdef : defOf view PySem.Challenge.rw_on0267_01.row.name = some (d, kwd)) (hp : PySem.Challenge.rw_on0267_01.row.prog.theDef PySem.Challenge.rw_on0267_01.row.name = some (d.params, d.body, d.scope)) (hk : kwWritten? d.params.kwonlyargs d.params.kw_defaults = some kwd)
    (k1 : PySem.Challenge.rw_on0267_01.row.wellSaid = true) (hw : PySem.Challenge.rw_on0267_01.row.toRowW.promised)
    (call : WalkO view [PySem.Str.ofString "PostError"] (XL view []) H.says PySem.Challenge.rw_on0267_01.row.toRowW d kwd fun f vs => PySem.call f vs) : PySem.Challenge.rw_on0267_01.row.Holds :=
  holds_open left H.of H.keeps (fun s e => xl_of s (Bool.and_eq_true_iff.mp e).1) XL.keeps hdef hp hk (fun _ e => recFacts_of (Bool.and_eq_true_iff.mp e).2) (by rfl) k1 (by decide +kernel) ⟨rfl, rfl, rfl, rfl, rfl, by decide +kernel⟩ hw call
theorem kw_hl : True := by
  k_with "ol9" => refine holds_law (by decide +kernel) fun said => ?_
  k_with "hl9" => (case k1 => first | assumption | decide +kernel); (case hl => refine left_tree (m₀ := 11) (ann := some (.ref 6)) ?a (by rfl) ?b ?c ?d; (case a => kernel_rfl); (case b => (intro s; kernel_rfl)); (case c => (intro w; kernel_rfl)); (case d => (intro w; kernel_rfl)))
  trivial
set_option hygiene false in
local macro_rules | `(tactic| o_head $H) => `(tactic| (refine oH $H ?hl rfl rfl rfl ?k1 ?hw ?hc; k_extra "hl9"))
local macro_rules | `(tactic| o_law) => `(tactic| k_extra "ol9")
set_option maxHeartbeats 0 in
open_top hd for PySem.Challenge.rw_on0267_01
inductive NormL : List (Str × Value) → List (Str × Value) → Prop
  | nil : NormL [] []
  | cons {a : Str} {v : Value} {t t' : List (Str × Value)} : NormL t t' → NormL ((a, v) :: t) ((a, v) :: t')
theorem NormL.eq {l l' : List (Str × Value)} (h : NormL l l') : l = l' := by induction h with | nil => rfl | cons _ ih => rw [ih]
theorem fr_norm {G : Prop} {g h : Heap} {L : Addr} {L0 l' l'' : List (Str × Value)} {names : List Str} (F : Fr g L h (fun y => (List.filterMap (fun n => Option.map (fun x => (n, x)) (List.lookup n L0)) names).reverse.lookup y)) (n : NormL L0 l') (r : NormL l'.reverse l'')
  (e : List.filterMap (fun n => Option.map (fun x => (n, x)) (List.lookup n L0)) names = l') (k : Fr g L h (fun y => List.lookup y l'') → G) : G := k (by rw [← r.eq, ← e]; exact F)
theorem norm_st {M : Model} {A : Around} {α : Type} {t : Sem α} {Q : α → Shared → Prop} {E : Value → Shared → Prop} {s s0 : Shared} {h : Heap} {k : Nat} (hs : s = { s0 with heap := h, toks := k }) (H : ∀ tk, wpAny M A t Q E { s0 with heap := h, toks := tk }) : wpAny M A t Q E s := hs ▸ H k
theorem code_def2 {prog : Program} {w : World} {A A₀ : Around} {s : Shared} {K : Frag} {L : Addr} {h₀ base : Heap} {m mg mb : Str → Option Value} {news : List (Addr × Obj)} {p : Program} {loose : List Str} {mean : ExcName → Option Value}
    {env : Env} {outer : List Env} {R : Result → Shared → Prop} {name qual : Str} {params : Arguments} {body : List Stmt} {scope : Scope} {dV kV doc pm cdv ct oc : Value} {an od : Option Addr} {osl : Array (Option Value)} {f : Addr} {args : Args} {L0 l' l'' : List (Str × Value)} {names : List Str}
    (B : Below A₀ base outer h₀) (F : Fr h₀ L s.heap m) (X₀ : K.In h₀) (N : News h₀ L s.heap news) (T : Top p loose mean mg mb h₀) (hA : A.frames = some (env :: outer)) (hf : env.frame = some L) (hke : env.scope.kind = .function)
    (ho : K.lookup f = some ⟨oc, od, .func (fnOf name qual params body scope dV kV doc pm an cdv ct), osl⟩) (hcd : codeIn K cdv qual = true) (hroom : A.depth < recursionLimit)
    (hbind : BindsTo s (fnOf name qual params body scope dV kV doc pm an cdv ct) args (List.filterMap (fun n => Option.map (fun x => (n, x)) (List.lookup n L0)) names))
    (n : NormL L0 l') (r : NormL l'.reverse l'') (e : List.filterMap (fun n => Option.map (fun x => (n, x)) (List.lookup n L0)) names = l') (hloc : ∀ y ∈ l', scope.names.lookup y.1 = some .local)
    (h : ∀ g L' h₁ tk, Fr h₀ L g m → Fr g L' h₁ (fun y => List.lookup y l'') → News g L' h₁ news → Below A base (env :: outer) g → K.In g → Top p loose mean mg mb g →
      wpAny (model prog w) (A.deeper (envOf qual scope L' f cdv)) (execs body (envOf qual scope L' f cdv))
        (fun fl s' => LeaveK h₀ L m g R (match fl with | .ret v => v | _ => .none) s')
        (fun e s' => wpAny (model prog w) (A.deeper (envOf qual scope L' f cdv)) (leaving (envOf qual scope L' f cdv) e) (fun _ s'' => R (.error e) s'') (fun e' s'' => R (.error e') s'') s')
        { s with heap := h₁, toks := tk })
    (hco : scope.isCoroutine = false) (hgen : scope.isGenerator = false) (hk : scope.kind = .function)
    (hcell : ∀ x ∈ scope.names, x.2 ≠ .cell) : codeAny (model prog w) A (.call (.ref f) args) R s :=
  code_def B F X₀ N T hA hf hke ho hcd hroom hbind (by rw [e]; exact hloc) (fun g L' h₁ FG F' N' B' X' T' => h g L' h₁ _ FG (by rw [← r.eq, ← e]; exact F') N' B' X' T') hco hgen hk hcell
theorem dltA {dp M N : Nat} (h : dp < M) (k : Nat) (b : Nat.ble (M + k) N = true) : dp + k < N := Nat.lt_of_lt_of_le (Nat.add_lt_add_right h k) (Nat.le_of_ble_eq_true b)
end Mine
open PySem.Challenge PySem.W.X PySem.W.XRun
namespace Mine
local macro_rules | `(tactic| k_room) => `(tactic| ktr_room)
local macro_rules | `(tactic| k_units) => `(tactic| ktr_units)
local macro_rules | `(tactic| k_in) => `(tactic| walk_at "k_in9")
local macro_rules | `(tactic| k_enter) => `(tactic| walk_at "k_enter9")
local macro_rules | `(tactic| k_all) => `(tactic| walk_at "k_all9")
local macro_rules | `(tactic| k_ne) => `(tactic| walk_at "k_ne9")
local macro_rules | `(tactic| walk_at $s:str) => `(tactic| k_extra $s)
section -- Base0
theorem kw_0 : True := by
  w_top off
  k_with "k_in9" => first | k_in_fast | (with_reducible assumption) | exact Frag.In.keeps (by k_asm) (Fr.keep (by k_asm))
  k_with "k_enter9" => first
      | (refine' code_def2 ?k1 ?k2 ?k3 ?k4 ?k5 ?kA ?kF ?kK ?k6 ?k7 ?k8 ?k9 ?n9 ?r9 ?e9 ?kB ?_ ?c2 ?c3 ?c4 ?c5; (case kA => exact rfl); (case kF => exact rfl); (case kK => first | exact rfl | assumption); (case k1 => k_asm); (case k2 => k_asm); (case k3 => k_asm); (case k4 => k_asm); (case k5 => k_asm); (case k6 => k_is); (case k7 => k_is); (case k8 => k_room); (case k9 => first | exact BindsTo.of_eq rfl | exact binds_K (by k_in) rfl (by k_is) rfl rfl rfl | fail "k_enter: no rule for these arguments"); (case n9 => repeat' (first | exact NormL.nil | refine' NormL.cons _)); (case r9 => repeat' (first | exact NormL.nil | refine' NormL.cons _)); (case e9 => kernel_rfl); (case c5 => decide); (case kB => exact locs rfl); (case c2 => exact rfl); (case c3 => exact rfl); (case c4 => exact rfl); k_whole; intro g' L' h' tk' FG' F' N' B' X' T'; (try dsimp only at F'); (try dsimp only); (try k_lift B'); (try k_fold))
      | (refine' code_def ?k1 ?k2 ?k3 ?k4 ?k5 ?kA ?kF ?kK ?k6 ?k7 ?k8 ?k9 ?kB ?_ ?c2 ?c3 ?c4 ?c5; (case kA => exact rfl); (case kF => exact rfl); (case kK => first | exact rfl | assumption); (case k1 => k_asm); (case k2 => k_asm); (case k3 => k_asm); (case k4 => k_asm); (case k5 => k_asm); (case k6 => k_is); (case k7 => k_is); (case k8 => k_room); (case k9 => first | exact BindsTo.of_eq rfl | exact binds_K (by k_in) rfl (by k_is) rfl rfl rfl | fail "k_enter: no rule for these arguments"); (case c5 => decide); (case kB => exact locs rfl); (case c2 => exact rfl); (case c3 => exact rfl); (case c4 => exact rfl); k_whole; intro g' L' h' FG' F' N' B' X' T'; (try dsimp only); (try k_lift B'); (try k_fold))
      | (refine' code_defC ?k1 ?k2 ?k3 ?k4 ?k5 ?kA ?kF ?kK ?k6 ?k7 ?k8 ?k9 ?kB ?kD ?_ ?c2 ?c3 ?c4; (case kA => exact rfl); (case kF => exact rfl); (case kK => first | exact rfl | assumption); (case k1 => k_asm); (case k2 => k_asm); (case k3 => k_asm); (case k4 => k_asm); (case k5 => k_asm); (case k6 => k_is); (case k7 => k_is); (case k8 => k_room); (case k9 => first | exact BindsTo.of_eq rfl | exact binds_K (by k_in) rfl (by k_is) rfl rfl rfl | fail "k_enter: no rule for these arguments"); (case kB => exact rfl); (case kD => decide +kernel); (case c2 => exact rfl); (case c3 => exact rfl); (case c4 => exact rfl); k_whole; intro g' L' h' tk' cells' FG' F' N' Y' B' X' T' l1; (try k_lt l1); k_cells Y'; (try simp only [List.cons_append, List.nil_append] at N'); (try dsimp only); (try k_lift B'); (try k_fold))
  k_with "execs cons" => ((with_reducible show wpAny _ _ _ _ _ (Shared.mk _ _ _ (HAdd.hAdd _ _) _)); refine norm_st rfl ?_; intro _)
  k_with "hd9" => first | exact dltA (by assumption) 1 rfl | exact dltA (by assumption) 2 rfl | exact dltA (by assumption) 0 rfl | exact dltA (by assumption) 3 rfl | exact dltA (by assumption) 4 rfl | ((try simp only [depth_under_make, depth_under_kw, depth_in1, depth_deeper, depth_caller, mark_dep]); (try dsimp only [ktrTop]); omega)
  k_with "hu9" => first | exact dltA (by assumption) 3 rfl | exact dltA (by assumption) 4 rfl | exact dltA (by assumption) 7 rfl | exact dltA (by assumption) 8 rfl | exact dltA (by assumption) 6 rfl | exact dltA (by assumption) 0 rfl | ((try simp only [units_in1, units_deeper, Around.mark_units, units_caller]); (try dsimp only [ktrTop]); omega)
  trivial
noncomputable abbrev rdEs (P : Params) (k0 k1 k2 k3 k4 k5 k6 k7 k8 k9 : Tok) (num nm cr cw op pl la ib oc at_ : Value) : List DictEntry :=
  [⟨PyData.keyHash P (Str.ofString "number"), .str (Str.ofString "number") k0, num⟩,
   ⟨PyData.keyHash P (Str.ofString "name"), .str (Str.ofString "name") k1, nm⟩,
   ⟨PyData.keyHash P (Str.ofString "can_read"), .str (Str.ofString "can_read") k2, cr⟩,
   ⟨PyData.keyHash P (Str.ofString "can_write"), .str (Str.ofString "can_write") k3, cw⟩,
   ⟨PyData.keyHash P (Str.ofString "is_open"), .str (Str.ofString "is_open") k4, op⟩,
   ⟨PyData.keyHash P (Str.ofString "place"), .str (Str.ofString "place") k5, pl⟩,
   ⟨PyData.keyHash P (Str.ofString "last"), .str (Str.ofString "last") k6, la⟩,
   ⟨PyData.keyHash P (Str.ofString "is_back"), .str (Str.ofString "is_back") k7, ib⟩,
   ⟨PyData.keyHash P (Str.ofString "octets"), .str (Str.ofString "octets") k8, oc⟩,
   ⟨PyData.keyHash P (Str.ofString "at"), .str (Str.ofString "at") k9, at_⟩]

theorem inst_ne {h₀ h : Heap} {L x dx C D : Addr} {es : List DictEntry} {n : Nat} {news : List (Addr × Obj)}
    (N : News h₀ L h news) (hx : (x, instObj C D) ∈ news) (hd : (dx, dictOf es n) ∈ news) : x ≠ dx := fun e => by
  have a := (N _ hx).1
  have b := (N _ hd).1
  rw [e] at a
  rw [a] at b
  cases b
theorem upd_mem {dx : Addr} {o : Obj} {news : List (Addr × Obj)} {g : Obj → List (Addr × Obj)} (U : UpdF dx o news g) : (dx, o) ∈ news := by
  obtain ⟨pre, post, e, _⟩ := U.split
  rw [e]; simp

theorem newsTail {h₀ h : Heap} {L : Addr} {p : Addr × Obj} {l : List (Addr × Obj)} (N : News h₀ L h (p :: l)) : News h₀ L h l := fun q hq => N q (.tail _ hq)
end
section -- Byt
theorem clip_pos {n : Nat} {i : Int} (h : 0 ≤ i) : clipAt n i = min i.toNat n := by
  have := clipAt_nat n i.toNat
  rwa [Int.toNat_of_nonneg h] at this
theorem take_clip (x : List UInt8) (i j : Nat) : (x.drop (min i x.length)).take (min j x.length - min i x.length) = (x.drop i).take (j - i) := by
  rcases Nat.le_total i x.length with h | h
  · rw [Nat.min_eq_left h]
    rcases Nat.le_total j x.length with h2 | h2
    · rw [Nat.min_eq_left h2]
    · rw [Nat.min_eq_right h2, List.take_of_length_le (by rw [List.length_drop]; omega), List.take_of_length_le (by rw [List.length_drop]; omega)]
  · rw [Nat.min_eq_right h, List.drop_eq_nil_of_le (Nat.le_refl _), List.drop_eq_nil_of_le h, List.take_nil, List.take_nil]
section
open PySem.W PyProof PyProof.V
variable {prog : Program} {w : World} {A : Around} {E : Value → Shared → Prop} {s : Shared} {value slice : PySem.Expr} {x y : List UInt8} {t u ti tj : Tok} {h₀ : Heap} {L : Addr} {m : PySem.Str → Option Value} {news : List (Addr × Obj)} {Q : Value → Shared → Prop} {i j : Int}
theorem sl_ij (F : Fr h₀ L s.heap m) (N : News h₀ L s.heap news) (hi : 0 ≤ i) (hj : 0 ≤ j) (hz : x.length ≤ 16777216)
    (h : ∀ h' t' k, Fr h₀ L h' m → News h₀ L h' news → Q (.bytes ((x.drop i.toNat).take (j.toNat - i.toNat)).toArray t') { s with heap := h', toks := k })
    (hs : subscripted slice false (.bytes x.toArray t) (.ref s.heap.objs.size) = operate [.ref s.heap.objs.size, .bytes x.toArray t] (getItem (.bytes x.toArray t) (.ref s.heap.objs.size)) := by with_unfolding_all rfl)
    (ht : ∀ r, letTemporaryGo value (.bytes x.toArray t) r = pure () := by intro _; with_unfolding_all rfl) :
    wpAny (model prog w) A (subscriptTail value slice (.bytes x.toArray t) (.ref s.heap.objs.size)) Q E { s with heap := s.heap.push { cls := .type "slice", data := .fields #[.int i ti, .int j tj, .none] } } := by
  refine KBc.slice_K F N rfl (.int i ti) (.int j tj) (by rw [KBw.ints_length, List.size_toArray]; exact hz) (fun h' t' k F' N' _ => ?_) hs ht
  have e : KBy.picked x.toArray (some i) (some j) = ((x.drop i.toNat).take (j.toNat - i.toNat)).toArray := by
    rw [KBc.picked_eq]
    simp only [Option.elim, List.size_toArray]
    rw [clip_pos hi, clip_pos hj, take_clip]
  rw [e]
  exact h h' t' k F' N'
theorem gap {p k : Int} (h0 : 0 ≤ p) (h1 : 0 ≤ k) : (p + k).toNat - p.toNat = k.toNat := by
  obtain ⟨a, rfl⟩ := Int.eq_ofNat_of_zero_le h0
  obtain ⟨b, rfl⟩ := Int.eq_ofNat_of_zero_le h1
  exact Nat.add_sub_cancel_left a b
theorem sl_i (F : Fr h₀ L s.heap m) (N : News h₀ L s.heap news) (hi : 0 ≤ i) (hz : x.length ≤ 16777216)
    (h : ∀ h' t' k, Fr h₀ L h' m → News h₀ L h' news → Q (.bytes (x.drop i.toNat).toArray t') { s with heap := h', toks := k })
    (hs : subscripted slice false (.bytes x.toArray t) (.ref s.heap.objs.size) = operate [.ref s.heap.objs.size, .bytes x.toArray t] (getItem (.bytes x.toArray t) (.ref s.heap.objs.size)) := by with_unfolding_all rfl)
    (ht : ∀ r, letTemporaryGo value (.bytes x.toArray t) r = pure () := by intro _; with_unfolding_all rfl) :
    wpAny (model prog w) A (subscriptTail value slice (.bytes x.toArray t) (.ref s.heap.objs.size)) Q E { s with heap := s.heap.push { cls := .type "slice", data := .fields #[.int i ti, .none, .none] } } := by
  refine KBc.slice_K F N rfl (.int i ti) .none (by rw [KBw.ints_length, List.size_toArray]; exact hz) (fun h' t' k F' N' _ => ?_) hs ht
  have e : KBy.picked x.toArray (some i) none = (x.drop i.toNat).toArray := by
    rw [KBc.picked_eq]
    simp only [Option.elim, List.size_toArray]
    rw [clip_pos hi, show x.length - min i.toNat x.length = min x.length x.length - min i.toNat x.length by rw [Nat.min_self], take_clip, List.take_of_length_le (by rw [List.length_drop]; omega)]
  rw [e]
  exact h h' t' k F' N'
theorem sl_j (F : Fr h₀ L s.heap m) (N : News h₀ L s.heap news) (hj : 0 ≤ j) (hz : x.length ≤ 16777216)
    (h : ∀ h' t' k, Fr h₀ L h' m → News h₀ L h' news → Q (.bytes (x.take j.toNat).toArray t') { s with heap := h', toks := k })
    (hs : subscripted slice false (.bytes x.toArray t) (.ref s.heap.objs.size) = operate [.ref s.heap.objs.size, .bytes x.toArray t] (getItem (.bytes x.toArray t) (.ref s.heap.objs.size)) := by with_unfolding_all rfl)
    (ht : ∀ r, letTemporaryGo value (.bytes x.toArray t) r = pure () := by intro _; with_unfolding_all rfl) :
    wpAny (model prog w) A (subscriptTail value slice (.bytes x.toArray t) (.ref s.heap.objs.size)) Q E { s with heap := s.heap.push { cls := .type "slice", data := .fields #[.none, .int j tj, .none] } } := by
  refine KBc.slice_K F N rfl .none (.int j tj) (by rw [KBw.ints_length, List.size_toArray]; exact hz) (fun h' t' k F' N' _ => ?_) hs ht
  have e : KBy.picked x.toArray none (some j) = (x.take j.toNat).toArray := by
    rw [KBc.picked_eq]
    simp only [Option.elim, List.size_toArray, List.drop_zero, Nat.sub_zero]
    rw [clip_pos hj]
    rcases Nat.le_total j.toNat x.length with h2 | h2
    · rw [Nat.min_eq_left h2]
    · rw [Nat.min_eq_right h2, List.take_of_length_le (Nat.le_refl _), List.take_of_length_le h2]
  rw [e]
  exact h h' t' k F' N'
theorem sl_n1 (F : Fr h₀ L s.heap m) (N : News h₀ L s.heap news) (hz : x.length ≤ 16777216)
    (h : ∀ h' t' k, Fr h₀ L h' m → News h₀ L h' news → Q (.bytes (x.drop (x.length - 1)).toArray t') { s with heap := h', toks := k })
    (hs : subscripted slice false (.bytes x.toArray t) (.ref s.heap.objs.size) = operate [.ref s.heap.objs.size, .bytes x.toArray t] (getItem (.bytes x.toArray t) (.ref s.heap.objs.size)) := by with_unfolding_all rfl)
    (ht : ∀ r, letTemporaryGo value (.bytes x.toArray t) r = pure () := by intro _; with_unfolding_all rfl) :
    wpAny (model prog w) A (subscriptTail value slice (.bytes x.toArray t) (.ref s.heap.objs.size)) Q E { s with heap := s.heap.push { cls := .type "slice", data := .fields #[.int (-1) ti, .none, .none] } } := by
  refine KBc.slice_K F N rfl (.int (-1) ti) .none (by rw [KBw.ints_length, List.size_toArray]; exact hz) (fun h' t' k F' N' _ => ?_) hs ht
  have e : KBy.picked x.toArray (some (-1)) none = (x.drop (x.length - 1)).toArray := by
    rw [KBc.picked_eq]
    simp only [Option.elim, List.size_toArray]
    rw [show ((-1 : Int)) = -((1 : Nat) : Int) from rfl, clipAt_neg _ _ (Nat.le_refl 1), List.take_of_length_le (by rw [List.length_drop]; omega)]
  rw [e]
  exact h h' t' k F' N'
theorem add_oc (hz : x.length + y.length ≤ 16777216) (h : ∀ t' k, Q (.bytes (x ++ y).toArray t') { s with toks := k }) : wpAny (model prog w) A (binaryOp .Add (.bytes x.toArray t) (.bytes y.toArray u)) Q E s :=
  KBy.add_bytes (by rw [List.size_toArray, List.size_toArray]; exact hz) fun t' k => by
    rw [List.append_toArray]
    exact h t' k
theorem len_oc (hz : x.length ≤ 16777216) (h : Q (.int x.length (s.toks + 1)) { s with toks := s.toks + 1 + 1 }) : wpAny (model prog w) A (call (.builtin "len") [.bytes x.toArray t]) Q E s :=
  len_bytes (by rw [List.size_toArray]; omega) (by rw [List.size_toArray]; exact h)
theorem eq_oc (h : Q (.bool (decide (x = y))) s) : wpAny (model prog w) A (compareOp .Eq (.bytes x.toArray t) (.bytes y.toArray u)) Q E s :=
  eq_bytes (by
    have e : (x.toArray.toList == y.toArray.toList) = decide (x = y) := by
      show (x == y) = decide (x = y)
      by_cases q : x = y <;> simp [q]
    rw [e]; exact h)
theorem ne_oc (h : Q (.bool (decide (x ≠ y))) s) : wpAny (model prog w) A (compareOp .NotEq (.bytes x.toArray t) (.bytes y.toArray u)) Q E s :=
  ne_bytes (by
    have e : (x.toArray.toList != y.toArray.toList) = decide (x ≠ y) := by
      show (x != y) = decide (x ≠ y)
      by_cases q : x = y <;> simp [q]
    rw [e]; exact h)
end
end
section -- Cmp
theorem kw_1 : True := by
  w_top off
  k_with "subscriptTail" => (k_here; (with_reducible show wpAny _ _ (subscriptTail _ (Expr.Slice _ _ none _) (Value.bytes (List.toArray _) _) (Value.ref _)) _ _ _); (with_reducible rename Fr _ _ _ _ => F'); (with_reducible rename News _ _ _ _ => N'); (first
      | (refine sl_ik (s := ⟨_, _, _, _, _⟩) F' N' (by kba_size) (by kba_size) (by kba_size) ?_)
      | (refine sl_ij (s := ⟨_, _, _, _, _⟩) F' N' (by kba_size) (by kba_size) (by kba_size) ?_)
      | (refine sl_n1 (s := ⟨_, _, _, _, _⟩) F' N' (by kba_size) ?_)
      | (refine sl_i (s := ⟨_, _, _, _, _⟩) F' N' (by kba_size) (by kba_size) ?_)
      | (refine sl_j (s := ⟨_, _, _, _, _⟩) F' N' (by kba_size) (by kba_size) ?_)); (clear F' N'); intro _ _ _ _ _; (try k_sweep))
  k_with "binaryOp Add bytes bytes" => (k_here; (with_reducible show wpAny _ _ (binaryOp Operator.Add (Value.bytes (List.toArray _) _) (Value.bytes (List.toArray _) _)) _ _ _); (refine add_oc (by kba_size) ?_); intro _ _)
  k_with "call builtin:len" => (k_here; (with_reducible show wpAny _ _ (call (Value.builtin "len") [Value.bytes (List.toArray _) _]) _ _ _); (refine len_oc (by kba_size) ?_); (try simp only [List.length_append, List.length_cons, List.length_nil, List.length_take, List.length_drop]))
  k_with "compareOp Eq bytes bytes" => (k_here; (with_reducible show wpAny _ _ (compareOp CmpOp.Eq (Value.bytes (List.toArray _) _) (Value.bytes (List.toArray _) _)) _ _ _); refine eq_oc ?_)
  k_with "compareOp NotEq bytes bytes" => (k_here; (with_reducible show wpAny _ _ (compareOp CmpOp.NotEq (Value.bytes (List.toArray _) _) (Value.bytes (List.toArray _) _)) _ _ _); refine ne_oc ?_)
  trivial
section
open PySem.SeqAt
variable {prog : Program} {w : World} {A : Around} {E : Value → Shared → Prop} {s : Shared} {h₀ : Heap} {L : Addr} {news : List (Addr × Obj)} {Q : Value → Shared → Prop}
theorem rcAt_bytes (x y : List UInt8) (t u : Tok) : RcAt A s (.bytes x.toArray t) (.bytes y.toArray u) (decide (x = y)) := fun prog w E Q h => by
  have k : wpAny (model prog w) A (compareOp .Eq (.bytes x.toArray t) (.bytes y.toArray u)) Q E s := eq_oc h
  exact k
theorem eqAt_bytes (x y : List UInt8) (t u : Tok) : EqAt A s (.bytes x.toArray t) (.bytes y.toArray u) (decide (x = y)) := fun prog w E Q h => by
  unfold eqBool
  refine wpAny_holding ?_
  refine wpAny_ite_split (fun hab => ?_) (fun _ => ?_)
  · have e : x = y := by
      have := eq_of_beq hab
      injection this with h1 h2
      have := congrArg Array.toList h1
      simpa using this
    subst e
    exact wpAny_bind (wpAny_rule (wpAny_pure (by simpa using h)))
  · exact wpAny_bind (rcAt_bytes x y t u prog w E _ (wpAny_truthy_bool h))
noncomputable abbrev tupObj (vs : Array Value) : Obj := { cls := .type "tuple", data := .seq vs }
theorem ne_tup2 {p q : Addr} {x y : List UInt8} {b c : Bool} {t u : Tok} (N : News h₀ L s.heap news) (m1 : (p, tupObj #[.bytes x.toArray t, .bool b]) ∈ news) (m2 : (q, tupObj #[.bytes y.toArray u, .bool c]) ∈ news)
    (hu : A.units < cLine) (h : Q (.bool (!(decide (x = y) && b == c))) s) : wpAny (model prog w) A (compareOp .NotEq (.ref p) (.ref q)) Q E s := by
  refine RcNeAt.tuples (e := fun j => if j = 0 then decide (x = y) else b == c) (items := #[.bytes x.toArray t, .bool b]) (items2 := #[.bytes y.toArray u, .bool c]) ⟨_, (N _ m1).1, rfl, _, rfl⟩ ⟨_, (N _ m2).1, rfl, _, rfl⟩ hu (fun j h1 h2 => ?_) prog w E Q ?_
  · match j, h1, h2 with
    | 0, _, _ => exact eqAt_bytes x y t u
    | 1, _, _ => exact EqAt.bool_bool b c
    | j + 2, h1, _ => exact absurd h1 (by simp)
  · have e : ((List.range (min (#[Value.bytes x.toArray t, .bool b]).size (#[Value.bytes y.toArray u, .bool c]).size)).all (fun j => if j = 0 then decide (x = y) else b == c) && (#[Value.bytes x.toArray t, .bool b]).size == (#[Value.bytes y.toArray u, .bool c]).size) = (decide (x = y) && b == c) := by
      have h2 : List.range (min (#[Value.bytes x.toArray t, .bool b]).size (#[Value.bytes y.toArray u, .bool c]).size) = [0, 1] := rfl
      rw [h2]
      simp
    rw [e]
    exact h
end
end
section -- PE
section
open PySem.W PyProof PyProof.V PySem.Calls PySem.Spec
inductive AV where
  | int (n : Int)
  | bytes (b : List UInt8)
  | val (v : Value)
  | obj
  | str (b : Str)
noncomputable def AV.v : AV → Tok → Value
  | .int n, t => .int n t
  | .bytes b, t => .bytes b.toArray t
  | .val v, _ => v
  | .obj, t => .ref t
  | .str b, t => .str b t
structure PE (M : Model) (A : Around) (env : Env) (g : Heap) (L : Addr) (m : Str → Option Value) (nw : List (Addr × Obj)) (e : Expr) (x : AV) : Prop where
  run : ∀ (s : Shared) (Q E : Value → Shared → Prop), Fr g L s.heap m → News g L s.heap nw → (∀ h tk t, Fr g L h m → News g L h nw → Q (x.v t) { s with heap := h, toks := tk }) → wpAny M A (eval e env) Q E s
structure PT (M : Model) (A : Around) (env : Env) (g : Heap) (L : Addr) (m : Str → Option Value) (nw : List (Addr × Obj)) (e : Expr) (b : Bool) : Prop where
  run : ∀ (s : Shared) (Q : Bool → Shared → Prop) (E : Value → Shared → Prop) (whole : Sem Value), Fr g L s.heap m → News g L s.heap nw → (∀ h tk, Fr g L h m → News g L h nw → Q b { s with heap := h, toks := tk }) → whole = eval e env → wpAny M A (PySem.isTrue e env whole) Q E s
structure Bi (M : Model) (A : Around) (op : Operator) (x y z : AV) : Prop where
  run : ∀ (s : Shared) (Q E : Value → Shared → Prop) (t u : Tok), (∀ tk t', Q (z.v t') { s with toks := tk }) → wpAny M A (binaryOp op (x.v t) (y.v u)) Q E s
structure Cm (M : Model) (A : Around) (op : CmpOp) (x y : AV) (b : Bool) : Prop where
  run : ∀ (s : Shared) (Q E : Value → Shared → Prop) (t u : Tok), Q (.bool b) s → wpAny M A (compareOp op (x.v t) (y.v u)) Q E s
variable {prog : Program} {w : World} {M : Model} {A : Around} {env : Env} {g : Heap} {L a : Addr} {m : Str → Option Value} {nw : List (Addr × Obj)} {cn : Str} {cs : Scope} {ccd : Value} {cl : List (Str × Addr)}
  {x : Str} {pos pos1 pos2 : Pos} {v : Value} {n k i j : Int} {t : Tok} {b b1 b2 : List UInt8} {e e1 e2 e3 : Expr} {x1 x2 x3 : AV} {c : Addr} {o : Obj} {q q1 q2 : Bool} {op : Operator} {cop : CmpOp}
theorem PE.nm (hv : m x = some v) (hk : cs.kind = .function := by rfl) (hx : (envX cn cs L a ccd cl).kindOf x = some .local := by rfl) (hd : (x == ("__debug__" : Str)) = false := by decide) :
    PE M A (envX cn cs L a ccd cl) g L m nw (.Name x pos) (.val v) := .mk fun s Q E F N H => nameX_L F hv (H s.heap s.toks default F N) hk hx hd
theorem PE.nmC (hm : (c, o) ∈ nw) (hd : o.data = .cell (some v)) (hc : cl.lookup x = some c) (hk : cs.kind = .function := by rfl) (hx : (envX cn cs L a ccd cl).kindOf x = some .cell := by rfl) (hb : (x == ("__debug__" : Str)) = false := by decide) :
    PE M A (envX cn cs L a ccd cl) g L m nw (.Name x pos) (.val v) := .mk fun s Q E F N H => nameX_C N hc hm hd (H s.heap s.toks default F N) hk hx hb
theorem PE.nmF (hm : (c, o) ∈ nw) (hd : o.data = .cell (some v)) (hc : cl.lookup x = some c) (hk : cs.kind = .function := by rfl) (hx : (envX cn cs L a ccd cl).kindOf x = some .free := by rfl) (hb : (x == ("__debug__" : Str)) = false := by decide) (hn : (x == ("__classdict__" : Str)) = false := by decide) :
    PE M A (envX cn cs L a ccd cl) g L m nw (.Name x pos) (.val v) := .mk fun s Q E F N H => nameX_F N hc hm hd (H s.heap s.toks default F N) hk hx hb hn
theorem PE.toI (p : PE M A env g L m nw e (.val (.int n t))) : PE M A env g L m nw e (.int n) := .mk fun s Q E F N H => p.run s Q E F N fun h tk _ F' N' => H h tk t F' N'
theorem PE.toB (p : PE M A env g L m nw e (.val (.bytes b.toArray t))) : PE M A env g L m nw e (.bytes b) := .mk fun s Q E F N H => p.run s Q E F N fun h tk _ F' N' => H h tk t F' N'
theorem PE.ci {kk : Nat} : PE M A env g L m nw (.Constant (.int n) kk pos) (.int n) := .mk fun s Q E F N H => wpAny_Constant_int (H s.heap (s.toks + 1) s.toks F N)
theorem PE.cb {kk : Nat} : PE M A env g L m nw (.Constant (.bytes b) kk pos) (.bytes b) := .mk fun s Q E F N H => Constant_bytes (H s.heap (s.toks + 1) s.toks F N)
theorem PE.cNone {kk : Nat} : PE M A env g L m nw (.Constant .none kk pos) (.val .none) := .mk fun s Q E F N H => wpAny_Constant_none (H s.heap s.toks default F N)
theorem PE.ct {kk : Nat} : PE M A env g L m nw (.Constant (.bool q) kk pos) (.val (.bool q)) := .mk fun s Q E F N H => PyProof.Rows.Constant_bool (H s.heap s.toks default F N)
theorem PE.bin (p1 : PE M A env g L m nw e1 x1) (p2 : PE M A env g L m nw e2 x2) (r : Bi M A op x1 x2 x3) : PE M A env g L m nw (.BinOp e1 op e2 pos) x3 := .mk fun s Q E F N H =>
  wpAny_BinOp (p1.run s _ E F N fun h tk t F1 N1 => p2.run _ _ E F1 N1 fun h' tk' t' F2 N2 => r.run _ Q E t t' fun k' t2 => H h' k' t2 F2 N2)
theorem PE.neg (p : PE (model prog w) A env g L m nw e (.int n)) : PE (model prog w) A env g L m nw (.UnaryOp .USub e pos) (.int (-n)) := .mk fun s Q E F N H =>
  UnaryOp_ (p.run s _ E F N fun h tk t F1 N1 => neg_int (H h (tk + 1) tk F1 N1))
theorem Bi.add : Bi (model prog w) A .Add (.int n) (.int k) (.int (n + k)) := .mk fun s Q E t u H => add_int (H (s.toks + 1) s.toks)
theorem Bi.sub : Bi (model prog w) A .Sub (.int n) (.int k) (.int (n - k)) := .mk fun s Q E t u H => sub_int (H (s.toks + 1) s.toks)
theorem Bi.mod (h : k ≠ 0) : Bi (model prog w) A .Mod (.int n) (.int k) (.int (n.fmod k)) := .mk fun s Q E t u H => mod_int' h (H (s.toks + 1) s.toks)
theorem Bi.div (h : k ≠ 0) (hp : Builtin.divisionGoesByPylong n k = false) : Bi (model prog w) A .FloorDiv (.int n) (.int k) (.int (n.fdiv k)) := .mk fun s Q E t u H => floordiv_int h (H (s.toks + 1) s.toks) (.inl hp)
theorem Bi.addB (hz : b1.length + b2.length ≤ 16777216) : Bi (model prog w) A .Add (.bytes b1) (.bytes b2) (.bytes (b1 ++ b2)) := .mk fun s Q E t u H => add_oc hz fun t' k => H k t'
theorem Cm.lt : Cm (model prog w) A .Lt (.int n) (.int k) (decide (n < k)) := .mk fun s Q E t u H => lt_int H
theorem Cm.gt : Cm (model prog w) A .Gt (.int n) (.int k) (decide (k < n)) := .mk fun s Q E t u H => gt_int H
theorem Cm.eq : Cm (model prog w) A .Eq (.int n) (.int k) (n == k) := .mk fun s Q E t u H => eq_int H
theorem Cm.ne : Cm (model prog w) A .NotEq (.int n) (.int k) (n != k) := .mk fun s Q E t u H => ne_int H
theorem Cm.eqB : Cm (model prog w) A .Eq (.bytes b1) (.bytes b2) (decide (b1 = b2)) := .mk fun s Q E t u H => eq_oc H
theorem Cm.neB : Cm (model prog w) A .NotEq (.bytes b1) (.bytes b2) (decide (b1 ≠ b2)) := .mk fun s Q E t u H => ne_oc H
theorem Cm.isNN : Cm M A .Is (.val .none) (.val .none) true := .mk fun s Q E t u H => is_none_none H
theorem Cm.isIN : Cm M A .Is (.int n) (.val .none) false := .mk fun s Q E t u H => is_int_none H
theorem Cm.notNN : Cm M A .IsNot (.val .none) (.val .none) false := .mk fun s Q E t u H => isnot_none_none H
theorem Cm.notBN : Cm M A .IsNot (.bytes b) (.val .none) true := .mk fun s Q E t u H => isnot_bytes_none H
theorem PE.cmp (p1 : PE M A env g L m nw e1 x1) (p2 : PE M A env g L m nw e2 x2) (r : Cm M A cop x1 x2 q) (hb : behindInMarks cop e2 = false := by rfl) : PE M A env g L m nw (.Compare e1 [cop] [e2] pos) (.val (.bool q)) := .mk fun s Q E F N H =>
  wpAny_Compare1 (p1.run s _ E F N fun h tk t F1 N1 => p2.run _ _ E F1 N1 fun h' tk' t' F2 N2 => r.run _ Q E t t' (H h' tk' default F2 N2)) hb
theorem PT.cmp (p1 : PE M A env g L m nw e1 x1) (p2 : PE M A env g L m nw e2 x2) (r : Cm M A cop x1 x2 q) (hb : behindInMarks cop e2 = false := by rfl) : PT M A env g L m nw (.Compare e1 [cop] [e2] pos) q := .mk fun s Q E whole F N H _ =>
  wpAny_isTrue_Compare1 (p1.run s _ E F N fun h tk t F1 N1 => p2.run _ _ E F1 N1 fun h' tk' t' F2 N2 => r.run _ _ E t t' (wpAny_truthy_bool (H h' tk' F2 N2))) hb
theorem PT.nt (p : PT M A env g L m nw e q) : PT M A env g L m nw (.UnaryOp .Not e pos) (!q) := .mk fun s Q E whole F N H _ =>
  isTrue_not (p.run s _ E _ F N H rfl)
theorem PT.or1 (p : PT M A env g L m nw e1 true) : PT M A env g L m nw (.BoolOp .Or [e1, e2] pos) true := .mk fun s Q E whole F N H hw =>
  isTrue_or (p.run s _ E _ F N (fun h tk F1 N1 => by rw [if_pos rfl]; exact H h tk F1 N1) rfl)
theorem PT.or2 (p : PT M A env g L m nw e1 false) (p2 : PT M A env g L m nw e2 q) : PT M A env g L m nw (.BoolOp .Or [e1, e2] pos) q := .mk fun s Q E whole F N H hw =>
  isTrue_or (p.run s _ E _ F N (fun h tk F1 N1 => by
    rw [if_neg (by decide)]
    refine isTrue_or (p2.run _ _ E _ F1 N1 (fun h' tk' F2 N2 => ?_) rfl)
    cases q with
    | true => exact H h' tk' F2 N2
    | false => exact isTrue_or_nil (H h' tk' F2 N2)) rfl)
theorem PT.and1 (p : PT M A env g L m nw e1 false) : PT M A env g L m nw (.BoolOp .And [e1, e2] pos) false := .mk fun s Q E whole F N H hw =>
  isTrue_and (p.run s _ E _ F N (fun h tk F1 N1 => by rw [if_neg (by decide)]; exact H h tk F1 N1) rfl)
theorem PT.and2 (p : PT M A env g L m nw e1 true) (p2 : PT M A env g L m nw e2 q) : PT M A env g L m nw (.BoolOp .And [e1, e2] pos) q := .mk fun s Q E whole F N H hw =>
  isTrue_and (p.run s _ E _ F N (fun h tk F1 N1 => by
    rw [if_pos rfl]
    refine isTrue_and (p2.run _ _ E _ F1 N1 (fun h' tk' F2 N2 => ?_) rfl)
    cases q with
    | false => exact H h' tk' F2 N2
    | true => exact isTrue_and_nil (H h' tk' F2 N2)) rfl)
theorem PT.or (p : PT M A env g L m nw e1 q1) (p2 : PT M A env g L m nw e2 q2) : PT M A env g L m nw (.BoolOp .Or [e1, e2] pos) (q1 || q2) := by
  cases q1 with
  | true => exact PT.or1 p
  | false => exact PT.or2 p p2
theorem PT.and (p : PT M A env g L m nw e1 q1) (p2 : PT M A env g L m nw e2 q2) : PT M A env g L m nw (.BoolOp .And [e1, e2] pos) (q1 && q2) := by
  cases q1 with
  | true => exact PT.and2 p p2
  | false => exact PT.and1 p
theorem PT.cast (p : PT M A env g L m nw e q1) (h : q1 = q2) : PT M A env g L m nw e q2 := h ▸ p
theorem PT.vl (p : PE M A env g L m nw (.Name x pos) (.val (.bool q))) : PT M A env g L m nw (.Name x pos) q := .mk fun s Q E whole F N H hw => by
  subst hw
  exact isTrue_plain (p.run s _ E F N fun h tk t F1 N1 => wpAny_truthy_bool (H h tk F1 N1))
theorem PE.if1 (p : PT M A env g L m nw e1 true) (p2 : PE M A env g L m nw e2 x1) : PE M A env g L m nw (.IfExp e1 e2 e3 pos) x1 := .mk fun s Q E F N H =>
  IfExp_ (p.run s _ E _ F N (fun h tk F1 N1 => by rw [if_pos rfl]; exact p2.run _ Q E F1 N1 fun h' tk' t' F2 N2 => H h' tk' t' F2 N2) rfl)
theorem PE.if2 (p : PT M A env g L m nw e1 false) (p2 : PE M A env g L m nw e3 x1) : PE M A env g L m nw (.IfExp e1 e2 e3 pos) x1 := .mk fun s Q E F N H =>
  IfExp_ (p.run s _ E _ F N (fun h tk F1 N1 => by rw [if_neg (by decide)]; exact p2.run _ Q E F1 N1 fun h' tk' t' F2 N2 => H h' tk' t' F2 N2) rfl)
theorem PE.item (p1 : PE M A env g L m nw e1 (.bytes b)) (p2 : PE M A env g L m nw e2 (.int i)) (hM : M = model prog w) (hz : b.length ≤ 1099511627776) (h0 : 0 ≤ i) (h1 : i < b.length)
    (hs : ∀ t u, subscripted e2 false (.bytes b.toArray t) (.int i u) = operate [.bytes b.toArray t, .int i u] (getItem (.bytes b.toArray t) (.int i u)) := by intro _ _; with_unfolding_all rfl)
    (ht : ∀ t r, letTemporaryGo e1 (.bytes b.toArray t) r = pure () := by intro _ _; with_unfolding_all rfl) : PE M A env g L m nw (.Subscript e1 e2 pos) (.int ((b.getD i.toNat 0).toNat : Int)) := .mk fun s Q E F N H => by
  subst hM
  exact Subscript_ (p1.run s _ E F N fun h tk t F1 N1 => p2.run _ _ E F1 N1 fun h' tk' t' F2 N2 => subscriptTail_builtin (typeIs_bytes _ _ _) FB.slot_bytes_getitem.lookup (getItem_bytes hz h0 h1 (H h' (tk' + 1) tk' F2 N2)) (hs t t') (ht t))
theorem PE.slij {l1 l2 : Expr} (p1 : PE (model prog w) A env g L m nw e1 (.bytes b)) (p2 : PE (model prog w) A env g L m nw l1 (.int i)) (p3 : PE (model prog w) A env g L m nw l2 (.int j)) (hi : 0 ≤ i) (hj : 0 ≤ j) (hz : b.length ≤ 16777216)
    (hs : ∀ t ad, subscripted (.Slice (some l1) (some l2) none pos1) false (.bytes b.toArray t) (.ref ad) = operate [.ref ad, .bytes b.toArray t] (getItem (.bytes b.toArray t) (.ref ad)) := by intro _ _; with_unfolding_all rfl)
    (ht : ∀ t r, letTemporaryGo e1 (.bytes b.toArray t) r = pure () := by intro _ _; with_unfolding_all rfl) : PE (model prog w) A env g L m nw (.Subscript e1 (.Slice (some l1) (some l2) none pos1) pos) (.bytes ((b.drop i.toNat).take (j.toNat - i.toNat))) := .mk fun s Q E F N H =>
  Subscript_ (p1.run s _ E F N fun h tk t F1 N1 => wpAny_Slice (evalPart_some_step (p2.run _ _ E F1 N1 fun h2 tk2 t2 F2 N2 => evalPart_some_step (p3.run _ _ E F2 N2 fun h3 tk3 t3 F3 N3 => evalPart_none_step
    (sl_ij (s := { s with heap := h3, toks := tk3 }) (ti := t2) (tj := t3) F3 N3 hi hj hz (fun h' t' k F' N' => H h' k t' F' N') (hs t _) (ht t))))))
theorem PE.sli {l1 : Expr} (p1 : PE (model prog w) A env g L m nw e1 (.bytes b)) (p2 : PE (model prog w) A env g L m nw l1 (.int i)) (hi : 0 ≤ i) (hz : b.length ≤ 16777216)
    (hs : ∀ t ad, subscripted (.Slice (some l1) none none pos1) false (.bytes b.toArray t) (.ref ad) = operate [.ref ad, .bytes b.toArray t] (getItem (.bytes b.toArray t) (.ref ad)) := by intro _ _; with_unfolding_all rfl)
    (ht : ∀ t r, letTemporaryGo e1 (.bytes b.toArray t) r = pure () := by intro _ _; with_unfolding_all rfl) : PE (model prog w) A env g L m nw (.Subscript e1 (.Slice (some l1) none none pos1) pos) (.bytes (b.drop i.toNat)) := .mk fun s Q E F N H =>
  Subscript_ (p1.run s _ E F N fun h tk t F1 N1 => wpAny_Slice (evalPart_some_step (p2.run _ _ E F1 N1 fun h2 tk2 t2 F2 N2 => evalPart_none_step (evalPart_none_step
    (sl_i (s := { s with heap := h2, toks := tk2 }) (ti := t2) F2 N2 hi hz (fun h' t' k F' N' => H h' k t' F' N') (hs t _) (ht t))))))
theorem PE.slj {l2 : Expr} (p1 : PE (model prog w) A env g L m nw e1 (.bytes b)) (p2 : PE (model prog w) A env g L m nw l2 (.int j)) (hj : 0 ≤ j) (hz : b.length ≤ 16777216)
    (hs : ∀ t ad, subscripted (.Slice none (some l2) none pos1) false (.bytes b.toArray t) (.ref ad) = operate [.ref ad, .bytes b.toArray t] (getItem (.bytes b.toArray t) (.ref ad)) := by intro _ _; with_unfolding_all rfl)
    (ht : ∀ t r, letTemporaryGo e1 (.bytes b.toArray t) r = pure () := by intro _ _; with_unfolding_all rfl) : PE (model prog w) A env g L m nw (.Subscript e1 (.Slice none (some l2) none pos1) pos) (.bytes (b.take j.toNat)) := .mk fun s Q E F N H =>
  Subscript_ (p1.run s _ E F N fun h tk t F1 N1 => wpAny_Slice (evalPart_none_step (evalPart_some_step (p2.run _ _ E F1 N1 fun h2 tk2 t2 F2 N2 => evalPart_none_step
    (sl_j (s := { s with heap := h2, toks := tk2 }) (tj := t2) F2 N2 hj hz (fun h' t' k F' N' => H h' k t' F' N') (hs t _) (ht t))))))
theorem PE.sln {l1 : Expr} (p1 : PE (model prog w) A env g L m nw e1 (.bytes b)) (p2 : PE (model prog w) A env g L m nw l1 (.int (-1))) (hz : b.length ≤ 16777216)
    (hs : ∀ t ad, subscripted (.Slice (some l1) none none pos1) false (.bytes b.toArray t) (.ref ad) = operate [.ref ad, .bytes b.toArray t] (getItem (.bytes b.toArray t) (.ref ad)) := by intro _ _; with_unfolding_all rfl)
    (ht : ∀ t r, letTemporaryGo e1 (.bytes b.toArray t) r = pure () := by intro _ _; with_unfolding_all rfl) : PE (model prog w) A env g L m nw (.Subscript e1 (.Slice (some l1) none none pos1) pos) (.bytes (b.drop (b.length - 1))) := .mk fun s Q E F N H =>
  Subscript_ (p1.run s _ E F N fun h tk t F1 N1 => wpAny_Slice (evalPart_some_step (p2.run _ _ E F1 N1 fun h2 tk2 t2 F2 N2 => evalPart_none_step (evalPart_none_step
    (sl_n1 (s := { s with heap := h2, toks := tk2 }) (ti := t2) F2 N2 hz (fun h' t' k F' N' => H h' k t' F' N') (hs t _) (ht t))))))
theorem PE.len {K : Frag} {p : Program} {loose : List Str} {mg mb : Str → Option Value} (X : K.In g) (T : TopRead p loose mg mb g) (e0 : nsIn K mainGlobals (Str.ofString "len") = some none) (pe : PE (model prog w) A (envX cn cs L a ccd cl) g L m nw e (.bytes b)) (hz : b.length ≤ 16777216)
    (hn : Str.ofString "len" ≠ "__name__" := by decide) (hk : cs.kind = .function := by rfl) (hx : (envX cn cs L a ccd cl).kindOf (Str.ofString "len") = some .globalImplicit := by rfl) (hd : (Str.ofString "len" == ("__debug__" : Str)) = false := by decide)
    (h1 : eval (.Call (.Name (Str.ofString "len") pos1) [e] [] pos) (envX cn cs L a ccd cl) = (do
        let f1 ← eval (.Name (Str.ofString "len") pos1) (envX cn cs L a ccd cl)
        callWith pos f1 [] (backTo pos (starEach [e] (envX cn cs L a ccd cl))) (backToKw pos (keywordEach [] (envX cn cs L a ccd cl)))) := by rfl)
    (h2 : starEach [e] (envX cn cs L a ccd cl) = (false, eval e (envX cn cs L a ccd cl)) :: starEach [] (envX cn cs L a ccd cl) := by rfl) :
    PE (model prog w) A (envX cn cs L a ccd cl) g L m nw (.Call (.Name (Str.ofString "len") pos1) [e] [] pos) (.int b.length) := .mk fun s Q E F N H => by
  refine Call_ (nameX_B F X T e0 boot_len hn ?_ hk hx hd) h1
  refine PyProof.Rows.callWith_builtin1 (args_cons (pe.run _ _ E F N fun h tk t F1 N1 => args_nil (len_oc hz (H h (tk + 1 + 1) (tk + 1) F1 N1))) h2) h2 ?_
  rfl
theorem put_len {at_ : Int} {now sm : List UInt8} {k : Nat} (h0 : 0 ≤ at_) (h1 : at_ ≤ (now.length : Int)) (hk : sm.length ≤ k) : (List.take at_.toNat now ++ sm ++ List.drop (at_ + sm.length).toNat now).length ≤ now.length + k ∧ at_ + sm.length ≤ ((List.take at_.toNat now ++ sm ++ List.drop (at_ + sm.length).toNat now).length : Int) := by
  obtain ⟨a, rfl⟩ := Int.eq_ofNat_of_zero_le h0
  have ha : a ≤ now.length := Int.ofNat_le.mp h1
  rw [show ((a : Nat) : Int) + (sm.length : Int) = ((a + sm.length : Nat) : Int) from rfl, Int.toNat_natCast, Int.toNat_natCast, List.length_append, List.length_append, List.length_take, List.length_drop, Nat.min_eq_left ha]
  refine ⟨?_, Int.ofNat_le.mpr (Nat.le_add_right _ _)⟩
  rw [Nat.add_right_comm]
  exact Nat.add_le_add (by rw [← Nat.sub_sub]; exact Nat.le_trans (Nat.add_le_add_left (Nat.sub_le _ _) _) (Nat.le_of_eq (Nat.add_sub_cancel' ha))) hk
theorem put_ok1 {now sm : List UInt8} {a b k N : Nat} (h : now.length ≤ N) (hk : sm.length ≤ k) (hN : Nat.ble (N + k) 16777216 = true) : (List.take a now).length + sm.length ≤ 16777216 :=
  Nat.le_trans (Nat.add_le_add (Nat.le_trans (List.length_take_le' a now) h) hk) (Nat.le_of_ble_eq_true hN)
theorem put_ok2 {now sm : List UInt8} {a b k N : Nat} (h : now.length ≤ N) (hk : sm.length ≤ k) (hN : Nat.ble (N + k + N) 16777216 = true) : (List.take a now ++ sm).length + (List.drop b now).length ≤ 16777216 := by
  rw [List.length_append]
  exact Nat.le_trans (Nat.add_le_add (Nat.add_le_add (Nat.le_trans (List.length_take_le' a now) h) hk) (Nat.le_trans (by rw [List.length_drop]; exact Nat.sub_le _ _) h)) (Nat.le_of_ble_eq_true hN)
end
end
section -- HX
section
open PySem.W PyProof PyProof.V PySem.Calls PySem.Spec
noncomputable abbrev FS := List (Str × AV)
inductive AVs : FS → List (Str × Value) → Prop
  | nil : AVs [] []
  | cons {x : Str} {a : AV} {l : FS} {vs : List (Str × Value)} (t : Tok) (h : AVs l vs) : AVs ((x, a) :: l) ((x, AV.v a t) :: vs)
theorem AVs.get {l : FS} {vs : List (Str × Value)} {x : Str} {a : AV} (h : AVs l vs) (e : l.lookup x = some a) : ∃ t, vs.lookup x = some (a.v t) := by
  induction h with
  | nil => cases e
  | @cons y b l vs t _ ih =>
    rw [List.lookup_cons] at e ⊢
    cases q : x == y with
    | true => rw [q] at e; cases e; exact ⟨t, rfl⟩
    | false => rw [q] at e; exact ih e
inductive DkE (P : Params) : FS → List DictEntry → Prop
  | nil : DkE P [] []
  | cons {x : Str} {a : AV} {l : FS} {es : List DictEntry} (t k : Tok) (h : DkE P l es) : DkE P ((x, a) :: l) (⟨PyData.keyHash P x, .str x k, AV.v a t⟩ :: es)
theorem DkE.get {P : Params} {l : FS} {es : List DictEntry} {x : Str} {a : AV} (h : DkE P l es) (e : l.lookup x = some a) : ∃ t, getL x es = some (some (a.v t)) := by
  unfold getL
  induction h with
  | nil => cases e
  | @cons y b l es t k _ ih =>
    rw [List.lookup_cons] at e
    rw [List.find?_cons]
    cases q : x == y with
    | true =>
      rw [q] at e; cases e
      rw [show (Value.str y k).isStr x = true from by show (y == x) = true; rw [beq_iff_eq] at q ⊢; exact q.symm]
      exact ⟨t, rfl⟩
    | false =>
      rw [q] at e
      rw [show (Value.str y k).isStr x = false from by show (y == x) = false; rw [beq_eq_false_iff_ne] at q ⊢; exact fun z => q z.symm]
      obtain ⟨t', h'⟩ := ih e
      refine ⟨t', ?_⟩
      dsimp only at h' ⊢
      revert h'
      cases es.find? (fun e => e.key.isStr x) with
      | some v => exact fun h' => h'
      | none =>
        intro h'
        dsimp only at h'
        split at h' <;> cases h'
theorem DkE.ref {P : Params} {l : FS} {es : List DictEntry} (h : DkE P l es) : es.any (·.refKey) = false := by
  induction h with
  | nil => rfl
  | cons t k _ ih => rw [List.any_cons, ih]; rfl
theorem DkE.miss {P : Params} {l : FS} {es : List DictEntry} {x : Str} (h : DkE P l es) (e : l.lookup x = none) : es.find? (fun e => e.key.isStr x) = none := by
  induction h with
  | nil => rfl
  | @cons y b l es t k _ ih =>
    rw [List.lookup_cons] at e
    rw [List.find?_cons]
    cases q : x == y with
    | true => rw [q] at e; cases e
    | false =>
      rw [q] at e
      rw [show (Value.str y k).isStr x = false from by show (y == x) = false; rw [beq_eq_false_iff_ne] at q ⊢; exact fun z => q z.symm]
      exact ih e
theorem DkE.none {P : Params} {l : FS} {es : List DictEntry} {x : Str} (h : DkE P l es) (e : l.lookup x = none) : getL x es = some none := by
  unfold getL
  rw [h.miss e, h.ref]; rfl
theorem DkE.some {P : Params} {l : FS} {es : List DictEntry} {x : Str} (h : DkE P l es) : (getL x es).isSome = true := by
  cases q : l.lookup x with
  | none => rw [h.none q]; rfl
  | some a => obtain ⟨t, e⟩ := h.get q; rw [e]; rfl
noncomputable def upd (x : Str) (a : AV) : FS → FS
  | [] => [(x, a)]
  | (y, b) :: l => match y == x with | true => (y, a) :: l | false => (y, b) :: upd x a l
theorem DkE.put {P : Params} {l : FS} {es : List DictEntry} {x : Str} {a : AV} (h : DkE P l es) (t k : Tok) : DkE P (upd x a l) (putL x (PyData.keyHash P x) (.str x k) (a.v t) es) ∧ putN x es l.length = (upd x a l).length := by
  unfold putN
  induction h with
  | nil => exact ⟨.cons t k .nil, rfl⟩
  | @cons y b l es t' k' h ih =>
    unfold upd putL
    rw [List.any_cons]
    rw [show (Value.str y k').isStr x = (y == x) from rfl]
    cases q : y == x with
    | true => exact ⟨.cons t k' h, rfl⟩
    | false =>
      refine ⟨.cons t' k' ih.1, ?_⟩
      have := ih.2
      rw [List.length_cons, List.length_cons, ← this, Bool.false_or]
      by_cases h9 : (es.any fun x_1 => x_1.key.isStr x) = true
      · rw [if_pos h9, if_pos h9]
      · rw [if_neg h9, if_neg h9]
noncomputable def Dk (P : Params) (o : Obj) (fs : FS) : Prop := ∃ es, DkE P fs es ∧ o = dictOf es fs.length
theorem DkE.len {P : Params} {l : FS} {es : List DictEntry} (h : DkE P l es) : es.length = l.length := by
  induction h with
  | nil => rfl
  | cons t k _ ih => rw [List.length_cons, List.length_cons, ih]
structure Lg (P : Params) (W : Type) where
  x : Addr
  dx : Addr
  C : Addr
  Led : W → List (Addr × Obj) → Prop
  fs : W → FS
  put : W → FS → W
  self : ∀ ω nw, Led ω nw → ∃ o g, (x, instObj C dx) ∈ nw ∧ Dk P o (fs ω) ∧ UpdF dx o nw g ∧ ∀ o' f', Dk P o' f' → Led (put ω f') (g o')
structure Cx (W : Type) where
  w : World
  Λ : Lg w.params W
  dp : Nat
  un : Nat
  gd : Option (List Code)
  cn : Str
  cs : Scope
  L : Addr
  a : Addr
  ccd : Value
  outer : List Env
  g : Heap
  base : Heap
  A₀ : Around
  loose : List Str
  mean : ExcName → Option Value
  mg : Str → Option Value
  mb : Str → Option Value
  B : Below A₀ base outer g
  X : (hd.heap_1 w.params).In g
  T : Top topProg loose mean mg mb g
  hk : cs.kind = .function
variable {W : Type}
structure Bs (w : World) where
  dp : Nat
  un : Nat
  gd : Option (List Code)
  L : Addr
  outer : List Env
  g : Heap
  base : Heap
  A₀ : Around
  loose : List Str
  mean : ExcName → Option Value
  mg : Str → Option Value
  mb : Str → Option Value
  B : Below A₀ base outer g
  X : (hd.heap_1 w.params).In g
  T : Top topProg loose mean mg mb g
noncomputable abbrev Cx.of {w : World} (Λ : Lg w.params W) (q : Str) (sc : Scope) (f : Addr) (cd : Value) (hk : sc.kind = .function) (b : Bs w) : Cx W :=
  ⟨w, Λ, b.dp, b.un, b.gd, q, sc, b.L, f, cd, b.outer, b.g, b.base, b.A₀, b.loose, b.mean, b.mg, b.mb, b.B, b.X, b.T, hk⟩
noncomputable abbrev Cx.M (c : Cx W) : Model := model rw_on0267_01.row.prog c.w
noncomputable abbrev Cx.A (c : Cx W) : Around := ktrTop c.dp c.un c.gd c.cn c.cs c.L c.a c.ccd [] c.outer
noncomputable abbrev Cx.env (c : Cx W) : Env := envX c.cn c.cs c.L c.a c.ccd []
noncomputable abbrev Cx.K (c : Cx W) : Frag := hd.heap_1 c.w.params
noncomputable def Rl (l : FS) (m : Str → Option Value) : Prop := ∀ y a, l.lookup y = some a → ∃ t, m y = some (AV.v a t)
theorem AVs.rl {l : FS} {vs : List (Str × Value)} (h : AVs l vs) : Rl l (fun y => vs.lookup y) := fun y a e => h.get e
theorem Rl.cons {l : FS} {m : Str → Option Value} (h : Rl l m) (nx : Str) (x : AV) (t : Tok) : Rl ((nx, x) :: l) (fun y => if y = nx then some (x.v t) else m y) := fun y a e => by
  rw [List.lookup_cons] at e
  by_cases q : y = nx
  · rw [show (y == nx) = true from beq_iff_eq.mpr q] at e; cases e; exact ⟨t, if_pos q⟩
  · rw [show (y == nx) = false from beq_eq_false_iff_ne.mpr q] at e; obtain ⟨u, h'⟩ := h y a e; exact ⟨u, (if_neg q).trans h'⟩
noncomputable def St (c : Cx W) (l : FS) (ω : W) (s : Shared) : Prop := ∃ m nw, Rl l m ∧ c.Λ.Led ω nw ∧ Fr c.g c.L s.heap m ∧ News c.g c.L s.heap nw
theorem St.elim {c : Cx W} {l : FS} {ω : W} {s : Shared} {G : Prop} (S : St c l ω s) (k : ∀ m nw, Rl l m → c.Λ.Led ω nw → Fr c.g c.L s.heap m → News c.g c.L s.heap nw → G) : G := by
  obtain ⟨m, nw, a, led, F, N⟩ := S
  exact k m nw a led F N
theorem Lg.use {P : Params} {Λ : Lg P W} {ω : W} {nw : List (Addr × Obj)} {G : Prop} (led : Λ.Led ω nw) (k : ∀ es g, (Λ.x, instObj Λ.C Λ.dx) ∈ nw → DkE P (Λ.fs ω) es → UpdF Λ.dx (dictOf es (Λ.fs ω).length) nw g → (∀ o' f', Dk P o' f' → Λ.Led (Λ.put ω f') (g o')) → G) : G := by
  obtain ⟨o, g, hi, ⟨es, hE, rfl⟩, U, hU⟩ := Λ.self ω nw led
  exact k es g hi hE U hU
inductive Sub (l : FS) : FS → Prop
  | nil : Sub l []
  | cons {x : Str} {a : AV} {l' : FS} (h : l.lookup x = some a) (r : Sub l l') : Sub l ((x, a) :: l')
theorem Sub.rl {l l' : FS} (h : Sub l l') {m : Str → Option Value} (r : Rl l m) : Rl l' m := by
  induction h with
  | nil => exact fun y a e => nomatch e
  | @cons x b l' e _ ih =>
    intro y a e'
    rw [List.lookup_cons] at e'
    cases q : y == x with
    | true => rw [q] at e'; cases e'; rw [beq_iff_eq.mp q]; exact r x _ e
    | false => rw [q] at e'; exact ih y a e'
noncomputable def Same (s s' : Shared) : Prop := s'.gens = s.gens ∧ s'.drawn = s.drawn ∧ s'.os = s.os
theorem Same.rfl {s : Shared} : Same s s := ⟨_root_.rfl, _root_.rfl, _root_.rfl⟩
theorem Same.trans {s s1 s2 : Shared} (a : Same s s1) (b : Same s1 s2) : Same s s2 := ⟨b.1.trans a.1, b.2.1.trans a.2.1, b.2.2.trans a.2.2⟩
theorem Same.mk' {s : Shared} {h : Heap} {k : Nat} : Same s { s with heap := h, toks := k } := ⟨_root_.rfl, _root_.rfl, _root_.rfl⟩
theorem Same.to {s s' : Shared} (a : Same s s') : s' = { s with heap := s'.heap, toks := s'.toks } := by
  obtain ⟨h, g, d, t, o⟩ := s
  obtain ⟨h', g', d', t', o'⟩ := s'
  obtain ⟨rfl, rfl, rfl⟩ := a
  rfl
structure EX (c : Cx W) (l : FS) (ω : W) (e : Expr) (x : AV) (ω' : W) : Prop where
  run : ∀ (s : Shared) (Q E : Value → Shared → Prop), St c l ω s → (∀ s' t, Same s s' → St c l ω' s' → Q (x.v t) s') → wpAny c.M c.A (eval e c.env) Q E s
structure TX (c : Cx W) (l : FS) (ω : W) (e : Expr) (b : Bool) (ω' : W) : Prop where
  run : ∀ (s : Shared) (Q : Bool → Shared → Prop) (E : Value → Shared → Prop) (whole : Sem Value), St c l ω s → (∀ s', Same s s' → St c l ω' s' → Q b s') → whole = eval e c.env → wpAny c.M c.A (PySem.isTrue e c.env whole) Q E s
inductive Fl where
  | next
  | brk
  | ret (x : AV)
noncomputable def Fl.v : Fl → Tok → Flow
  | .next, _ => .next
  | .brk, _ => .brk
  | .ret x, t => .ret (x.v t)
inductive Out (W : Type) where
  | next (l : FS) (ω : W)
  | fall (ω : W)
  | ret (x : AV) (ω : W)
  | post (P : Fl → FS → W → Prop)
noncomputable def Post (c : Cx W) (s : Shared) (Q : Flow → Shared → Prop) : Out W → Prop
  | .next l ω => ∀ s', Same s s' → St c l ω s' → Q .next s'
  | .fall ω => ∀ s' l, Same s s' → St c l ω s' → Q .next s'
  | .ret x ω => ∀ s' t l, Same s s' → St c l ω s' → Q (.ret (x.v t)) s'
  | .post P => ∀ s' t l ω f, P f l ω → Same s s' → St c l ω s' → Q (f.v t) s'
theorem Post.on {c : Cx W} {s s' : Shared} {Q : Flow → Shared → Prop} {o : Out W} (h : Same s s') (p : Post c s Q o) : Post c s' Q o := by
  cases o with
  | next l ω => exact fun s2 a b => p s2 (h.trans a) b
  | fall ω => exact fun s2 l a b => p s2 l (h.trans a) b
  | ret x ω => exact fun s2 t l a b => p s2 t l (h.trans a) b
  | post P => exact fun s2 t l ω f k a b => p s2 t l ω f k (h.trans a) b
structure SX (c : Cx W) (l : FS) (ω : W) (ss : List Stmt) (out : Out W) : Prop where
  run : ∀ (s : Shared) (Q : Flow → Shared → Prop) (E : Value → Shared → Prop), St c l ω s → Post c s Q out → wpAny c.M c.A (execs ss c.env) Q E s
variable {c : Cx W} {l l1 l2 : FS} {ω ω1 ω2 ω3 : W} {e e1 e2 e3 : Expr} {x y z : AV} {n k i j : Int} {b b1 b2 : List UInt8} {nx ny : Str} {pos pos1 pos2 pos3 pos4 : Pos} {v : Value} {q q1 q2 : Bool} {op : Operator} {cop : CmpOp} {out : Out W} {rest body orelse : List Stmt}
theorem EX.nm (hv : l.lookup nx = some x) (hx : c.env.kindOf nx = some .local := by rfl) (hd : (nx == ("__debug__" : Str)) = false := by decide) : EX c l ω (.Name nx pos) x ω := .mk fun s Q E S H => by
  refine St.elim S fun vs nw a led F N => ?_
  obtain ⟨t, ht⟩ := a _ _ hv
  exact nameX_L F ht (H s t .rfl ⟨vs, nw, a, led, F, N⟩) c.hk hx hd
theorem EX.ci {kk : Nat} {n : Int} : EX c l ω (.Constant (.int n) kk pos) (.int n) ω := .mk fun s Q E S H => wpAny_Constant_int (H _ s.toks .mk' S)
theorem EX.cb {kk : Nat} : EX c l ω (.Constant (.bytes b) kk pos) (.bytes b) ω := .mk fun s Q E S H => Constant_bytes (H _ s.toks .mk' S)
theorem EX.cn {kk : Nat} : EX c l ω (.Constant .none kk pos) (.val .none) ω := .mk fun s Q E S H => wpAny_Constant_none (H _ default .rfl S)
theorem EX.ct {kk : Nat} : EX c l ω (.Constant (.bool q) kk pos) (.val (.bool q)) ω := .mk fun s Q E S H => PyProof.Rows.Constant_bool (H _ default .rfl S)
structure AOk (K : Frag) (C : Addr) (nx : Str) : Prop where
  hg : plainGet K C nx = true
  hh : hasDictIn K C = true
  ha : findIn K (.ref C) nx = some none
  hp : plainOver K C = true
  hq : findIn K (.ref C) "__setattr__" = some (some (.builtin "object.__setattr__"))
  ht : takerIn K C nx = some none
structure CGet (K : Frag) (C : Addr) : Prop where
  hg : plainGet K C "" = true
  hh : hasDictIn K C = true
  hp : plainOver K C = true
  hq : findIn K (.ref C) "__setattr__" = some (some (.builtin "object.__setattr__"))
theorem AOk.of {K : Frag} {C : Addr} {nx : Str} (o : CGet K C) (h : findIn K (.ref C) nx = some none) : AOk K C nx := ⟨o.hg, o.hh, h, o.hp, o.hq, by unfold takerIn; rw [h]; rfl⟩
theorem self_get {Q : Value → Shared → Prop} {E : Value → Shared → Prop} {s : Shared} (S : St c l ω s) (hl : (c.Λ.fs ω).lookup nx = some x) (hv : ∀ t, handedIn (x.v t) = true) (ok : AOk c.K c.Λ.C nx)
    (H : ∀ s' t, Same s s' → St c l ω s' → Q (x.v t) s') : wpAny c.M c.A (getAttr (.ref c.Λ.x) nx true) Q E s := by
  refine St.elim S fun vs nw a led F N => ?_
  refine Lg.use led fun es g hi hE U _ => ?_
  obtain ⟨t, ht⟩ := hE.get hl
  exact get_own F c.X (InstAt.of_news N hi (upd_mem U)) ok.hg ok.hh ok.ha rfl ht (hv t) (H _ t .mk' ⟨vs, nw, a, led, F, N⟩)
theorem EX.attr (hs : l.lookup ny = some (.val (.ref c.Λ.x))) (hl : (c.Λ.fs ω).lookup nx = some x) (ok : AOk c.K c.Λ.C nx) (hv : ∀ t, handedIn (x.v t) = true := by intro _; rfl)
    (hx : c.env.kindOf ny = some .local := by rfl) (hd : (ny == ("__debug__" : Str)) = false := by decide)
    (he : eval (.Attribute (.Name ny pos1) nx pos) c.env = (do
      let o ← eval (.Name ny pos1) c.env
      standAt pos.atName
      let r ← holding [o] (getAttr o nx true)
      letTemporaryGo (.Name ny pos1) o r
      pure r) := by rfl) : EX c l ω (.Attribute (.Name ny pos1) nx pos) x ω := .mk fun s Q E S H =>
  Attribute_Name_ ((EX.nm hs hx hd).run s _ E S fun s1 t h1 S1 => self_get S1 hl hv ok fun s2 t2 h2 S2 => H s2 t2 (h1.trans h2) S2) he
theorem EX.bin (p1 : EX c l ω e1 x ω1) (p2 : EX c l ω1 e2 y ω2) (r : Bi c.M c.A op x y z) : EX c l ω (.BinOp e1 op e2 pos) z ω2 := .mk fun s Q E S H =>
  wpAny_BinOp (p1.run s _ E S fun s1 t h1 S1 => p2.run _ _ E S1 fun s2 t' h2 S2 => r.run _ Q E t t' fun k' t2 => H _ t2 ((h1.trans h2).trans ⟨_root_.rfl, _root_.rfl, _root_.rfl⟩) S2)
theorem EX.neg (p : EX c l ω e (.int n) ω1) : EX c l ω (.UnaryOp .USub e pos) (.int (-n)) ω1 := .mk fun s Q E S H =>
  UnaryOp_ (p.run s _ E S fun s1 t h1 S1 => neg_int (H _ s1.toks (h1.trans ⟨_root_.rfl, _root_.rfl, _root_.rfl⟩) S1))
theorem EX.if1 (p : TX c l ω e1 true ω1) (p2 : EX c l ω1 e2 x ω2) : EX c l ω (.IfExp e1 e2 e3 pos) x ω2 := .mk fun s Q E S H =>
  IfExp_ (p.run s _ E _ S (fun s1 h1 S1 => by rw [if_pos _root_.rfl]; exact p2.run _ Q E S1 fun s2 t h2 S2 => H s2 t (h1.trans h2) S2) _root_.rfl)
theorem EX.if2 (p : TX c l ω e1 false ω1) (p2 : EX c l ω1 e3 x ω2) : EX c l ω (.IfExp e1 e2 e3 pos) x ω2 := .mk fun s Q E S H =>
  IfExp_ (p.run s _ E _ S (fun s1 h1 S1 => by rw [if_neg (by decide)]; exact p2.run _ Q E S1 fun s2 t h2 S2 => H s2 t (h1.trans h2) S2) _root_.rfl)
theorem EX.cast (p : EX c l ω e x ω1) (h : x = y) : EX c l ω e y ω1 := h ▸ p
theorem TX.cast (p : TX c l ω e q ω1) (h : q = q1) : TX c l ω e q1 ω1 := h ▸ p
theorem TX.cmp (p1 : EX c l ω e1 x ω1) (p2 : EX c l ω1 e2 y ω2) (r : Cm c.M c.A cop x y q) (hb : behindInMarks cop e2 = false := by rfl) : TX c l ω (.Compare e1 [cop] [e2] pos) q ω2 := .mk fun s Q E whole S H _ =>
  wpAny_isTrue_Compare1 (p1.run s _ E S fun s1 t h1 S1 => p2.run _ _ E S1 fun s2 t' h2 S2 => r.run _ _ E t t' (wpAny_truthy_bool (H s2 (h1.trans h2) S2))) hb
theorem TX.nt (p : TX c l ω e q ω1) : TX c l ω (.UnaryOp .Not e pos) (!q) ω1 := .mk fun s Q E whole S H _ => isTrue_not (p.run s _ E _ S H _root_.rfl)
theorem TX.or1 (p : TX c l ω e1 true ω1) : TX c l ω (.BoolOp .Or [e1, e2] pos) true ω1 := .mk fun s Q E whole S H hw =>
  isTrue_or (p.run s _ E _ S (fun s1 h1 S1 => by rw [if_pos _root_.rfl]; exact H s1 h1 S1) _root_.rfl)
theorem TX.or2 (p : TX c l ω e1 false ω1) (p2 : TX c l ω1 e2 q ω2) : TX c l ω (.BoolOp .Or [e1, e2] pos) q ω2 := .mk fun s Q E whole S H hw =>
  isTrue_or (p.run s _ E _ S (fun s1 h1 S1 => by
    rw [if_neg (by decide)]
    refine isTrue_or (p2.run _ _ E _ S1 (fun s2 h2 S2 => ?_) _root_.rfl)
    cases q with
    | true => exact H s2 (h1.trans h2) S2
    | false => exact isTrue_or_nil (H s2 (h1.trans h2) S2)) _root_.rfl)
theorem TX.and1 (p : TX c l ω e1 false ω1) {es : List Expr} : TX c l ω (.BoolOp .And (e1 :: e2 :: es) pos) false ω1 := .mk fun s Q E whole S H hw =>
  isTrue_and (p.run s _ E _ S (fun s1 h1 S1 => by rw [if_neg (by decide)]; exact H s1 h1 S1) _root_.rfl)
theorem TX.and2 (p : TX c l ω e1 true ω1) (p2 : TX c l ω1 e2 q ω2) : TX c l ω (.BoolOp .And [e1, e2] pos) q ω2 := .mk fun s Q E whole S H hw =>
  isTrue_and (p.run s _ E _ S (fun s1 h1 S1 => by
    rw [if_pos _root_.rfl]
    refine isTrue_and (p2.run _ _ E _ S1 (fun s2 h2 S2 => ?_) _root_.rfl)
    cases q with
    | false => exact H s2 (h1.trans h2) S2
    | true => exact isTrue_and_nil (H s2 (h1.trans h2) S2)) _root_.rfl)
theorem TX.vlN (p : EX c l ω (.Name nx pos) (.val (.bool q)) ω1) : TX c l ω (.Name nx pos) q ω1 := .mk fun s Q E whole S H hw => by
  subst hw
  exact isTrue_plain (p.run s _ E S fun s1 t h1 S1 => wpAny_truthy_bool (H s1 h1 S1))
theorem TX.vlA (p : EX c l ω (.Attribute e nx pos) (.val (.bool q)) ω1) : TX c l ω (.Attribute e nx pos) q ω1 := .mk fun s Q E whole S H hw => by
  subst hw
  exact isTrue_plain (p.run s _ E S fun s1 t h1 S1 => wpAny_truthy_bool (H s1 h1 S1))
theorem SX.nil : SX c l ω [] (.next l ω) := .mk fun s Q E S H => wpAny_execs_nil (H s .rfl S)
theorem SX.nilF : SX c l ω [] (.fall ω) := .mk fun s Q E S H => wpAny_execs_nil (H s l .rfl S)
theorem st_store {s : Shared} {Q : Unit → Shared → Prop} {E : Value → Shared → Prop} (t : Tok) (S : St c l ω s) (H : ∀ s', Same s s' → St c ((nx, x) :: l) ω s' → Q () s') (hx : c.env.kindOf nx = some .local) : wpAny c.M c.A (storeName c.env nx (x.v t)) Q E s := by
  refine St.elim S fun m nw a led F N => ?_
  exact storeX_L F N (fun h' F' N' => H _ .mk' ⟨_, nw, a.cons nx x t, led, F', N'⟩) c.hk hx
theorem SX.asg (p : EX c l ω e x ω1) (r : SX c ((nx, x) :: l) ω1 rest out) (hs : swapsWith e (some (Expr.Name nx pos1)) pos.line c.env = pure false := by rfl) (hx : c.env.kindOf nx = some .local := by rfl) :
    SX c l ω (.Assign [.Name nx pos1] e pos :: rest) out := .mk fun s Q E S H =>
  wpAny_execs_cons (wpAny_Assign_Name (p.run s _ E S fun s1 t h1 S1 => st_store t S1 (fun s2 h2 S2 => r.run _ _ E S2 (H.on (h1.trans h2))) hx) hs)
theorem self_set {Q : Unit → Shared → Prop} {E : Value → Shared → Prop} {s : Shared} (t : Tok) (S : St c l ω s) (hz : Nat.ble (upd nx x (c.Λ.fs ω)).length 1000 = true) (ok : AOk c.K c.Λ.C nx)
    (H : ∀ s', Same s s' → St c l (c.Λ.put ω (upd nx x (c.Λ.fs ω))) s' → Q () s') : wpAny c.M c.A (setAttr (.ref c.Λ.x) nx (x.v t)) Q E s := by
  refine St.elim S fun vs nw a led F N => ?_
  refine Lg.use led fun es g hi hE U hU => ?_
  obtain ⟨h1, h2⟩ := hE.put (x := nx) (a := x) t (s.toks + 1)
  obtain ⟨pre, post, e1, e2, a1, a2⟩ := U.split
  refine set_dict (news' := g (dictOf (putL nx (PyData.keyHash c.w.params nx) (.str nx (s.toks + 1)) (x.v t) es) (putN nx es (c.Λ.fs ω).length))) (es := es) (n := (c.Λ.fs ω).length) (es' := putL nx (PyData.keyHash c.w.params nx) (.str nx (s.toks + 1)) (x.v t) es) (n' := putN nx es (c.Λ.fs ω).length) F c.X N (InstAt.of_news N hi (upd_mem U)) _root_.rfl ok.hq ok.hp ok.ht ok.hh hE.some _root_.rfl ?_ (by rw [h1.len]; exact Nat.le_of_ble_eq_true hz) fun h' F' N' => H { s with heap := h', toks := s.toks + 2 } .mk' ⟨vs, _, a, hU (dictOf (putL nx (PyData.keyHash c.w.params nx) (.str nx (s.toks + 1)) (x.v t) es) (putN nx es (c.Λ.fs ω).length)) (upd nx x (c.Λ.fs ω)) ⟨_, h1, ?_⟩, F', N'⟩
  · rw [e1, e2]
    clear e1 e2 hU U hi N led
    induction pre with
    | nil => exact .head a2
    | cons p r ih => exact .tail (a1 p (.head _)) (ih fun q hq => a1 q (.tail _ hq))
  · rw [h2]
theorem SX.aset (hs : l.lookup ny = some (.val (.ref c.Λ.x))) (p : EX c l ω e x ω1) (r : SX c l (c.Λ.put ω1 (upd nx x (c.Λ.fs ω1))) rest out)
    (hz : Nat.ble (upd nx x (c.Λ.fs ω1)).length 1000 = true) (ok : AOk c.K c.Λ.C nx)
    (hw : swapsWith e (some (.Attribute (.Name ny pos1) nx pos2)) pos.line c.env = pure false := by rfl) (hx : c.env.kindOf ny = some .local := by rfl) (hd : (ny == ("__debug__" : Str)) = false := by decide) :
    SX c l ω (.Assign [.Attribute (.Name ny pos1) nx pos2] e pos :: rest) out := .mk fun s Q E S H =>
  wpAny_execs_cons (plainObj_wpAny_Assign_Attribute (p.run s _ E S fun s1 t h1 S1 => (EX.nm hs hx hd).run s1 _ E S1 fun s2 _ h2 S2 => self_set t S2 hz ok fun s3 h3 S3 => r.run _ _ E S3 (H.on ((h1.trans h2).trans h3))) hw)
structure Ip (M : Model) (A : Around) (op : Operator) (x y z : AV) : Prop where
  run : ∀ (s : Shared) (Q E : Value → Shared → Prop) (t u : Tok), (∀ tk t', Q (z.v t') { s with toks := tk }) → wpAny M A (inplaceOp op (x.v t) (y.v u)) Q E s
theorem Ip.add {prog : Program} {w : World} {A : Around} : Ip (model prog w) A .Add (.int n) (.int k) (.int (n + k)) := .mk fun s Q E t u H => iadd_int (H (s.toks + 1) s.toks)
theorem Ip.sub {prog : Program} {w : World} {A : Around} : Ip (model prog w) A .Sub (.int n) (.int k) (.int (n - k)) := .mk fun s Q E t u H => isub_int (H (s.toks + 1) s.toks)
theorem SX.aug (hs : l.lookup ny = some (.val (.ref c.Λ.x))) (hl : (c.Λ.fs ω).lookup nx = some x) (p : EX c l ω e y ω1) (o : Ip c.M c.A op x y z) (r : SX c l (c.Λ.put ω1 (upd nx z (c.Λ.fs ω1))) rest out) (hz : Nat.ble (upd nx z (c.Λ.fs ω1)).length 1000 = true) (ok : AOk c.K c.Λ.C nx) (hv : ∀ t, handedIn (x.v t) = true := by intro _; rfl)
    (hx : c.env.kindOf ny = some .local := by rfl) (hd : (ny == ("__debug__" : Str)) = false := by decide) :
    SX c l ω (.AugAssign (.Attribute (.Name ny pos1) nx pos2) op e pos :: rest) out := .mk fun s Q E S H =>
  wpAny_execs_cons (wpAny_AugAssign_AttributeAny ((EX.nm hs hx hd).run s _ E S fun s1 _ h1 S1 => self_get S1 hl hv ok fun s2 t h2 S2 => p.run _ _ E S2 fun s3 u h3 S3 => o.run _ _ E t u fun k t' =>
    self_set t' (s := { s3 with toks := k }) S3 hz ok fun s4 h4 S4 => r.run _ _ E S4 (H.on (((h1.trans h2).trans h3).trans ⟨h4.1, h4.2⟩))))
theorem SX.ret (p : EX c l ω e x ω1) : SX c l ω (.Return (some e) pos :: rest) (.ret x ω1) := .mk fun s Q E S H =>
  wpAny_execs_cons (wpAny_Return_some (p.run s _ E S fun s1 t h1 S1 => H s1 t _ h1 S1))
theorem SX.exp (p : EX c l ω e x ω1) (r : SX c l ω1 rest out) (hi : interactive c.env = false := by rfl) (hs : swapsWith e none pos.line c.env = pure false := by rfl) : SX c l ω (.Expr e pos :: rest) out := .mk fun s Q E S H =>
  wpAny_execs_cons (wpAny_Expr_any (p.run s _ E S fun s1 t h1 S1 => r.run _ _ E S1 (H.on h1)) hi hs)
theorem SX.ifT (p : TX c l ω e true ω1) (b : SX c l ω1 body (.next l1 ω2)) (r : SX c l1 ω2 rest out) : SX c l ω (.If e body orelse pos :: rest) out := .mk fun s Q E S H =>
  wpAny_execs_cons (wpAny_If (p.run s _ E _ S (fun s1 h1 S1 => by rw [if_pos _root_.rfl]; exact b.run _ _ E S1 fun s2 h2 S2 => r.run _ _ E S2 (H.on (h1.trans h2))) _root_.rfl))
theorem SX.ifTr (p : TX c l ω e true ω1) (b : SX c l ω1 body (.ret x ω2)) : SX c l ω (.If e body orelse pos :: rest) (.ret x ω2) := .mk fun s Q E S H =>
  wpAny_execs_cons (wpAny_If (p.run s _ E _ S (fun s1 h1 S1 => by rw [if_pos _root_.rfl]; exact b.run _ _ E S1 fun s2 t l h2 S2 => H s2 t l (h1.trans h2) S2) _root_.rfl))
theorem SX.ifF (p : TX c l ω e false ω1) (b : SX c l ω1 orelse (.next l1 ω2)) (r : SX c l1 ω2 rest out) : SX c l ω (.If e body orelse pos :: rest) out := .mk fun s Q E S H =>
  wpAny_execs_cons (wpAny_If (p.run s _ E _ S (fun s1 h1 S1 => by rw [if_neg (by decide)]; exact b.run _ _ E S1 fun s2 h2 S2 => r.run _ _ E S2 (H.on (h1.trans h2))) _root_.rfl))
end
end
section -- HM
section
open PySem.W PyProof PyProof.V PySem.Calls PySem.Spec
inductive ArgsV : List AV → List Value → Prop
  | nil : ArgsV [] []
  | cons {a : AV} {l : List AV} {vs : List Value} (t : Tok) (h : ArgsV l vs) : ArgsV (a :: l) (AV.v a t :: vs)
theorem ArgsV.inv {a : AV} {l : List AV} {vs : List Value} (h : ArgsV (a :: l) vs) : ∃ t vs', vs = AV.v a t :: vs' ∧ ArgsV l vs' := by
  cases h with
  | cons t h => exact ⟨t, _, rfl, h⟩
theorem ArgsV.inv0 {vs : List Value} (h : ArgsV [] vs) : vs = [] := by cases h; rfl
theorem ArgsV.inv1 {a : AV} {vs : List Value} (h : ArgsV [a] vs) : ∃ t, vs = [AV.v a t] := by
  obtain ⟨t, vs', e, h'⟩ := h.inv
  exact ⟨t, by rw [e, h'.inv0]⟩
variable {W : Type}
structure MC (w : World) (Λ : Lg w.params W) (N : Nat) (f : Addr) (args : List AV) (ω : W) (x : AV) (ω' : W) : Prop where
  code : ∀ {A₀ : Around} {base h₀ : Heap} {outer : List Env} {L a : Addr} {m : Str → Option Value} {dp un : Nat} {gd : Option (List Code)} {cn : Str} {cs : Scope} {ccd : Value} {cl : List (Str × Addr)} {loose : List Str} {mean : ExcName → Option Value} {mg mb : Str → Option Value}
    {s : Shared} {R : Result → Shared → Prop} {nw : List (Addr × Obj)} {vs : List Value},
    Below A₀ base outer h₀ → (hd.heap_1 w.params).In h₀ → Top topProg loose mean mg mb h₀ → cs.kind = .function → dp < N → Fr h₀ L s.heap m → News h₀ L s.heap nw → Λ.Led ω nw → ArgsV args vs →
    (∀ s' t nw', Same s s' → Fr h₀ L s'.heap m → News h₀ L s'.heap nw' → Λ.Led ω' nw' → R (.ok (.ret (x.v t))) s') →
    codeAny (model rw_on0267_01.row.prog w) (ktrTop dp un gd cn cs L a ccd cl outer) (.call (.ref f) ⟨.ref Λ.x :: vs, []⟩) R s
theorem MC.run {w : World} {Λ : Lg w.params W} {N : Nat} {f : Addr} {args : List AV} {ω ω' : W} {x : AV} (mc : MC w Λ N f args ω x ω') {A₀ : Around} {base h₀ : Heap} {outer : List Env} {L a : Addr} {m : Str → Option Value} {dp un : Nat} {gd : Option (List Code)} {cn : Str} {cs : Scope} {ccd : Value} {cl : List (Str × Addr)} {loose : List Str} {mean : ExcName → Option Value} {mg mb : Str → Option Value}
    {s : Shared} {Q E : Value → Shared → Prop} {nw : List (Addr × Obj)} {vs : List Value}
    (B : Below A₀ base outer h₀) (X : (hd.heap_1 w.params).In h₀) (T : Top topProg loose mean mg mb h₀) (hk : cs.kind = .function) (hdp : dp < N) (F : Fr h₀ L s.heap m) (Nw : News h₀ L s.heap nw) (led : Λ.Led ω nw) (ha : ArgsV args vs)
    (H : ∀ s' t nw', Same s s' → Fr h₀ L s'.heap m → News h₀ L s'.heap nw' → Λ.Led ω' nw' → Q (x.v t) s') :
    wpAny (model rw_on0267_01.row.prog w) (ktrTop dp un gd cn cs L a ccd cl outer) (call (.ref f) (.ref Λ.x :: vs)) Q E s := wpAny_call (mc.code B X T hk hdp F Nw led ha H)
theorem MC.of {w : World} {Λ : Lg w.params W} {N : Nat} {f : Addr} {args : List AV} {ω ω' : W} {x : AV} {l0 : FS} {out : Out W} {name qual : Str} {params : Arguments} {body : List Stmt} {scope : Scope} {dV kV doc pm cdv ct oc : Value} {an od : Option Addr} {osl : Array (Option Value)}
    (b : ∀ (hk : scope.kind = .function) (bs : Bs w), bs.dp < N + 1 →
      SX (Cx.of Λ qual scope f cdv hk bs) l0 ω body out)
    (hout : out = .ret x ω' ∨ (out = .fall ω' ∧ x = .val .none))
    (ho : (hd.heap_1 w.params).lookup f = some ⟨oc, od, .func (fnOf name qual params body scope dV kV doc pm an cdv ct), osl⟩) (hcd : codeIn (hd.heap_1 w.params) cdv qual = true) (hN : Nat.ble N 900 = true)
    (hbind : ∀ s vs, ArgsV args vs → ∃ lv, BindsTo s (fnOf name qual params body scope dV kV doc pm an cdv ct) ⟨.ref Λ.x :: vs, []⟩ lv ∧ AVs l0 lv.reverse ∧ ∀ y ∈ lv, scope.names.lookup y.1 = some .local)
    (hco : scope.isCoroutine = false) (hgen : scope.isGenerator = false) (hk : scope.kind = .function) (hcell : ∀ x ∈ scope.names, x.2 ≠ .cell) : MC w Λ N f args ω x ω' := by
  refine .mk fun {A₀ base h₀ outer L a m dp un gd cn cs ccd cl loose mean mg mb s R nw vs} B X T hks hdp F Nw led hargs ret => ?_
  obtain ⟨lv, hb, hA, hl⟩ := hbind s vs hargs
  refine code_def B F X Nw T rfl rfl hks ho hcd ?_ hb hl (fun g' L' h1 FG F' N' B' X' T' => ?_) hco hgen hk hcell
  · exact Nat.lt_of_lt_of_le hdp (Nat.le_trans (Nat.le_of_ble_eq_true hN) (by decide))
  · refine (b hk ⟨dp + 1, un + 3, gd, L', envX cn cs L a ccd cl :: outer, g', _, _, loose, mean, mg, mb, B', X', T'⟩ (Nat.succ_lt_succ hdp)).run _ _ _ ?S ?P
    case S => exact ⟨_, nw, hA.rl, led, F', N'⟩
    rcases hout with rfl | ⟨rfl, rfl⟩
    · intro s2 t l2 h2 S2
      refine St.elim S2 fun vs2 nw2 _ led2 F2 N2 => ?_
      exact leaveK_ F2 N2 fun F3 N3 => ret s2 t nw2 (Same.trans ⟨rfl, rfl, rfl⟩ h2) F3 N3 led2
    · intro s2 l2 h2 S2
      refine St.elim S2 fun vs2 nw2 _ led2 F2 N2 => ?_
      exact leaveK_ F2 N2 fun F3 N3 => ret s2 default nw2 (Same.trans ⟨rfl, rfl, rfl⟩ h2) F3 N3 led2
theorem MC.of0 {w : World} {Λ : Lg w.params W} {N : Nat} {f : Addr} {ω ω' : W} {x : AV} {out : Out W} {name qual : Str} {params : Arguments} {body : List Stmt} {scope : Scope} {dV kV doc pm cdv ct oc : Value} {an od : Option Addr} {osl : Array (Option Value)}
    (b : ∀ (hk : scope.kind = .function) (bs : Bs w), bs.dp < N + 1 →
      SX (Cx.of Λ qual scope f cdv hk bs) [(Str.ofString "self", .val (.ref Λ.x))] ω body out)
    (hout : out = .ret x ω' ∨ (out = .fall ω' ∧ x = .val .none))
    (ho : (hd.heap_1 w.params).lookup f = some ⟨oc, od, .func (fnOf name qual params body scope dV kV doc pm an cdv ct), osl⟩) (hcd : codeIn (hd.heap_1 w.params) cdv qual = true) (hN : Nat.ble N 900 = true)
    (hbind : ∀ v, bindArgs (fnOf name qual params body scope dV kV doc pm an cdv ct) ⟨[v], []⟩ = pure [(Str.ofString "self", v)]) (hl : decide (scope.names.lookup (Str.ofString "self") = some .local) = true)
    (hco : scope.isCoroutine = false) (hgen : scope.isGenerator = false) (hk : scope.kind = .function) (hcell : ∀ x ∈ scope.names, x.2 ≠ .cell) : MC w Λ N f [] ω x ω' :=
  MC.of b hout ho hcd hN (fun s vs h => ⟨[(Str.ofString "self", .ref Λ.x)], by rw [h.inv0]; exact BindsTo.of_eq (hbind _), .cons default .nil, fun y hy => by rw [List.mem_singleton.mp hy]; exact of_decide_eq_true hl⟩) hco hgen hk hcell
theorem MC.of1 (pn : Str) {w : World} {Λ : Lg w.params W} {N : Nat} {f : Addr} {a : AV} {ω ω' : W} {x : AV} {out : Out W} {name qual : Str} {params : Arguments} {body : List Stmt} {scope : Scope} {dV kV doc pm cdv ct oc : Value} {an od : Option Addr} {osl : Array (Option Value)}
    (b : ∀ (hk : scope.kind = .function) (bs : Bs w), bs.dp < N + 1 →
      SX (Cx.of Λ qual scope f cdv hk bs) [(pn, a), (Str.ofString "self", .val (.ref Λ.x))] ω body out)
    (hout : out = .ret x ω' ∨ (out = .fall ω' ∧ x = .val .none))
    (ho : (hd.heap_1 w.params).lookup f = some ⟨oc, od, .func (fnOf name qual params body scope dV kV doc pm an cdv ct), osl⟩) (hcd : codeIn (hd.heap_1 w.params) cdv qual = true) (hN : Nat.ble N 900 = true)
    (hbind : ∀ v u, bindArgs (fnOf name qual params body scope dV kV doc pm an cdv ct) ⟨[v, u], []⟩ = pure [(Str.ofString "self", v), (pn, u)]) (hl : decide (scope.names.lookup (Str.ofString "self") = some .local) = true) (hl2 : decide (scope.names.lookup pn = some .local) = true)
    (hco : scope.isCoroutine = false) (hgen : scope.isGenerator = false) (hk : scope.kind = .function) (hcell : ∀ x ∈ scope.names, x.2 ≠ .cell) : MC w Λ N f [a] ω x ω' :=
  MC.of b hout ho hcd hN (fun s vs h => by
    obtain ⟨t, rfl⟩ := h.inv1
    refine ⟨[(Str.ofString "self", .ref Λ.x), (pn, a.v t)], BindsTo.of_eq (hbind _ _), .cons t (.cons default .nil), fun y hy => ?_⟩
    rcases List.mem_cons.mp hy with rfl | hy
    · exact of_decide_eq_true hl
    · rw [List.mem_singleton.mp hy]; exact of_decide_eq_true hl2) hco hgen hk hcell
variable {c : Cx W} {l : FS} {ω ω1 ω2 : W} {e1 e2 : Expr} {x x1 x2 : AV} {nx ny : Str} {pos pos1 pos2 : Pos} {f : Addr} {N : Nat}
structure MOk (K : Frag) (C : Addr) (nx : Str) (f : Addr) : Prop where
  h1 : plainGet K C nx = true
  h2 : findIn K (.ref C) nx = some (some (.ref f))
  h3 : isFn K (.ref f) = true
  h4 : keepIn K (.ref f) = true
theorem EX.meth0 (hs : l.lookup ny = some (.val (.ref c.Λ.x))) (ok : MOk c.K c.Λ.C nx f) (mc : MC c.w c.Λ N f [] ω x ω1) (hN : c.dp < N) (hn : (c.Λ.fs ω).lookup nx = none := by rfl)
    (hx : c.env.kindOf ny = some .local := by rfl) (hd : (ny == ("__debug__" : Str)) = false := by decide) {pl : Sem Bool}
    (he : eval (.Call (.Attribute (.Name ny pos2) nx pos1) [] [] pos) c.env = (do
      let ov ← eval (.Name ny pos2) c.env
      standAt pos1.atName
      let (f, first) ← holding [ov] (getMethod ov nx pl)
      callWith pos f first (backTo pos (starEach [] c.env)) []) := by rfl) : EX c l ω (.Call (.Attribute (.Name ny pos2) nx pos1) [] [] pos) x ω1 := .mk fun s Q E S H =>
  MethodCall_ ((EX.nm hs hx hd).run s _ E S fun s1 t h1' S1 => by
    refine St.elim S1 fun vs nw a led F Nw => ?_
    refine Lg.use led fun es g hi hE U _ => ?_
    exact method_inst F c.X (InstAt.of_news Nw hi (upd_mem U)) ok.h1 ok.h2 ok.h3 (hE.none hn) (callWith_K0 (c.X.keeps F.keep) ok.h4 (mc.run c.B c.X c.T c.hk hN F Nw led .nil fun s2 t2 nw2 e2 F2 N2 led2 => H s2 t2 (h1'.trans e2) ⟨vs, nw2, a, led2, F2, N2⟩))) he
theorem EX.meth1 (hs : l.lookup ny = some (.val (.ref c.Λ.x))) (p1 : EX c l ω e1 x1 ω1) (ok : MOk c.K c.Λ.C nx f) (mc : MC c.w c.Λ N f [x1] ω1 x ω2) (hN : c.dp < N) (hn : (c.Λ.fs ω).lookup nx = none := by rfl)
    (hx : c.env.kindOf ny = some .local := by rfl) (hd : (ny == ("__debug__" : Str)) = false := by decide) {pl : Sem Bool}
    (he : eval (.Call (.Attribute (.Name ny pos2) nx pos1) [e1] [] pos) c.env = (do
      let ov ← eval (.Name ny pos2) c.env
      standAt pos1.atName
      let (f, first) ← holding [ov] (getMethod ov nx pl)
      callWith pos f first (backTo pos (starEach [e1] c.env)) []) := by rfl)
    (ha : starEach [e1] c.env = (false, eval e1 c.env) :: starEach [] c.env := by rfl) : EX c l ω (.Call (.Attribute (.Name ny pos2) nx pos1) [e1] [] pos) x ω2 := .mk fun s Q E S H =>
  MethodCall_ ((EX.nm hs hx hd).run s _ E S fun s1 t h1' S1 => by
    refine St.elim S1 fun vs nw a led F Nw => ?_
    refine Lg.use led fun es g hi hE U _ => ?_
    refine method_inst F c.X (InstAt.of_news Nw hi (upd_mem U)) ok.h1 ok.h2 ok.h3 (hE.none hn) (callWith_K c.X ok.h4 (args_cons (p1.run _ _ E S1 fun s2 t2 h2' S2 => args_nil ?_) ha) ha rfl)
    refine St.elim S2 fun vs2 nw2 a2 led2 F2 N2 => ?_
    exact ⟨c.X.keeps F2.keep, mc.run c.B c.X c.T c.hk hN F2 N2 led2 (.cons t2 .nil) fun s3 t3 nw3 e3 F3 N3 led3 => H s3 t3 ((h1'.trans h2').trans e3) ⟨vs2, nw3, a2, led3, F3, N3⟩⟩) he
theorem updF_again {dx : Addr} {o : Obj} {news : List (Addr × Obj)} {g : Obj → List (Addr × Obj)} (U : UpdF dx o news g) : news = g o ∧ ∀ o', UpdF dx o' (g o') g := by
  induction U with
  | head h => exact ⟨rfl, fun o' => .head h⟩
  | tail h _ ih => exact ⟨by rw [ih.1], fun o' => .tail h (ih.2 o')⟩
theorem updF_in {x dx : Addr} {o ox : Obj} {news : List (Addr × Obj)} {g : Obj → List (Addr × Obj)} (U : UpdF dx o news g) (hx : (x, ox) ∈ news) (ne : x ≠ dx) : ∀ o', (x, ox) ∈ g o' := by
  induction U with
  | head h =>
    intro o'
    rcases List.mem_cons.mp hx with z | z
    · exact absurd (Prod.mk.inj z).1 ne
    · exact .tail _ z
  | tail h _ ih =>
    intro o'
    rcases List.mem_cons.mp hx with z | z
    · exact z ▸ .head _
    · exact .tail _ (ih z o')
theorem updF_of {d : Addr} {od o' : Obj} {l : List (Addr × Obj)} {g : Obj → List (Addr × Obj)} (U : UpdF d od l g) {p : Addr × Obj} : p ∈ g o' → p = (d, o') ∨ (p ∈ l ∧ p.1 ≠ d) := by
  induction U with
  | head h =>
    intro hp
    rcases List.mem_cons.mp hp with rfl | hp
    · exact .inl rfl
    · exact .inr ⟨.tail _ hp, h p hp⟩
  | tail h _ ih =>
    intro hp
    rcases List.mem_cons.mp hp with rfl | hp
    · exact .inr ⟨.head _, h⟩
    · exact (ih hp).imp id fun k => ⟨.tail _ k.1, k.2⟩
theorem own3 {h₀ h : Heap} {L x dx d : Addr} {ox o od : Obj} {news : List (Addr × Obj)} (N : News h₀ L h news) (hx : (x, ox) ∈ news) (hdx : (dx, o) ∈ news) (hd : (d, od) ∈ news) :
    ∃ own, OwnOff own [x, dx, d] ∧ News h₀ L h ((x, ox) :: (dx, o) :: (d, od) :: own) ∧ ∀ o' od' p, p ∈ news → p.1 ≠ dx → p.1 ≠ d → p ∈ (x, ox) :: (dx, o') :: (d, od') :: own := by
  refine ⟨news.filter (fun p => decide (p.1 ≠ x ∧ p.1 ≠ dx ∧ p.1 ≠ d)), fun p hp b hb => ?_, fun p hp => ?_, fun o' od' p hp h1 h2 => ?_⟩
  · have h := of_decide_eq_true (List.mem_filter.mp hp).2
    rcases List.mem_cons.mp hb with rfl | hb
    · exact h.1
    · rcases List.mem_cons.mp hb with rfl | hb
      · exact h.2.1
      · rw [List.mem_singleton.mp hb]; exact h.2.2
  · rcases List.mem_cons.mp hp with rfl | hp
    · exact N _ hx
    · rcases List.mem_cons.mp hp with rfl | hp
      · exact N _ hdx
      · rcases List.mem_cons.mp hp with rfl | hp
        · exact N _ hd
        · exact N _ (List.mem_filter.mp hp).1
  · by_cases q : p.1 = x
    · rw [show p = (x, ox) from Prod.ext q (Option.some.inj ((N _ hp).1.symm.trans (q ▸ (N _ hx).1)))]; exact .head _
    · exact .tail _ (.tail _ (.tail _ (List.mem_filter.mpr ⟨hp, decide_eq_true ⟨q, h1, h2⟩⟩)))
noncomputable abbrev LgS (P : Params) (x dx C : Addr) (g : Obj → List (Addr × Obj)) (hx : ∀ o', (x, instObj C dx) ∈ g o') (hU : ∀ o', UpdF dx o' (g o') g) : Lg P FS where
  x := x
  dx := dx
  C := C
  Led := fun fs nw => ∃ o, Dk P o fs ∧ nw = g o
  fs := fun fs => fs
  put := fun _ fs => fs
  self := fun fs nw ⟨o, h, e⟩ => ⟨o, g, e ▸ hx o, h, e ▸ hU o, fun o' f' h' => ⟨o', h', rfl⟩⟩
end
end
section -- HX2
section
open PySem.W PyProof PyProof.V PySem.Calls PySem.Spec
variable {W : Type} {c : Cx W} {l l1 : FS} {ω ω1 ω2 ω3 ω4 : W} {e e1 e2 e3 e4 : Expr} {x y z x1 x2 x3 x4 : AV} {n k i j : Int} {b b1 b2 : List UInt8} {nx ny nz n1 n2 n3 n4 : Str} {pos pos1 pos2 pos3 pos4 pos5 pos6 pos7 pos8 pos9 posA : Pos} {v : Value} {q q1 q2 q3 : Bool} {op : Operator} {cop : CmpOp} {out : Out W} {rest body orelse : List Stmt}
theorem Cm.geI {prog : Program} {w : World} {A : Around} : Cm (model prog w) A .GtE (.int n) (.int k) (decide (k ≤ n)) := .mk fun s Q E t u H => PyProof.Rows.ge_int H
theorem Cm.notIN {M : Model} {A : Around} : Cm M A .IsNot (.int n) (.val .none) true := .mk fun s Q E t u H => isnot_int_none H
theorem and_f {a b : Bool} (h : a = false) : (a && b) = false := by rw [h]; rfl
theorem TX.and (p : TX c l ω e1 q1 ω) (p2 : TX c l ω e2 q2 ω) : TX c l ω (.BoolOp .And [e1, e2] pos) (q1 && q2) ω := by
  cases q1 with
  | true => exact TX.and2 p p2
  | false => exact TX.and1 p
theorem TX.or (p : TX c l ω e1 q1 ω) (p2 : TX c l ω e2 q2 ω) : TX c l ω (.BoolOp .Or [e1, e2] pos) (q1 || q2) ω := by
  cases q1 with
  | true => exact TX.or1 p
  | false => exact TX.or2 p p2
theorem TX.and3 (p : TX c l ω e1 q1 ω) (p2 : TX c l ω e2 q2 ω) (p3 : TX c l ω e3 q3 ω) : TX c l ω (.BoolOp .And [e1, e2, e3] pos) (q1 && (q2 && q3)) ω := by
  cases q1 with
  | false => exact TX.and1 p
  | true =>
    refine .mk fun s Q E whole S H hw => isTrue_and (p.run s _ E _ S (fun s1 h1 S1 => ?_) _root_.rfl)
    rw [if_pos _root_.rfl]
    refine isTrue_and (p2.run _ _ E _ S1 (fun s2 h2 S2 => ?_) _root_.rfl)
    cases q2 with
    | false => exact H s2 (h1.trans h2) S2
    | true =>
      rw [if_pos _root_.rfl]
      refine isTrue_and (p3.run _ _ E _ S2 (fun s3 h3 S3 => ?_) _root_.rfl)
      cases q3 with
      | false => exact H s3 ((h1.trans h2).trans h3) S3
      | true => exact isTrue_and_nil (H s3 ((h1.trans h2).trans h3) S3)
theorem TX.ifT (p : TX c l ω e1 true ω1) (p2 : TX c l ω1 e2 q ω2) : TX c l ω (.IfExp e1 e2 e3 pos) q ω2 := .mk fun s Q E whole S H hw =>
  isTrue_IfExp (p.run s _ E _ S (fun s1 h1 S1 => by rw [if_pos _root_.rfl]; exact p2.run _ _ E _ S1 (fun s2 h2 S2 => H s2 (h1.trans h2) S2) _root_.rfl) _root_.rfl)
theorem TX.ifF (p : TX c l ω e1 false ω1) (p2 : TX c l ω1 e3 q ω2) : TX c l ω (.IfExp e1 e2 e3 pos) q ω2 := .mk fun s Q E whole S H hw =>
  isTrue_IfExp (p.run s _ E _ S (fun s1 h1 S1 => by rw [if_neg (by decide)]; exact p2.run _ _ E _ S1 (fun s2 h2 S2 => H s2 (h1.trans h2) S2) _root_.rfl) _root_.rfl)
theorem EX.len (p : EX c l ω e (.bytes b) ω1) (hz : b.length ≤ 16777216) (e0 : nsIn c.K mainGlobals (Str.ofString "len") = some none := by rfl)
    (hn : Str.ofString "len" ≠ "__name__" := by decide) (hx : c.env.kindOf (Str.ofString "len") = some .globalImplicit := by rfl) (hd : (Str.ofString "len" == ("__debug__" : Str)) = false := by decide)
    (h1 : eval (.Call (.Name (Str.ofString "len") pos1) [e] [] pos) c.env = (do
        let f1 ← eval (.Name (Str.ofString "len") pos1) c.env
        callWith pos f1 [] (backTo pos (starEach [e] c.env)) (backToKw pos (keywordEach [] c.env))) := by rfl)
    (h2 : starEach [e] c.env = (false, eval e c.env) :: starEach [] c.env := by rfl) : EX c l ω (.Call (.Name (Str.ofString "len") pos1) [e] [] pos) (.int b.length) ω1 := .mk fun s Q E S H => by
  refine St.elim S fun vs nw a led F N => ?_
  refine Call_ (nameX_B F c.X (topRead_of c.T) e0 boot_len hn ?_ c.hk hx hd) h1
  refine PyProof.Rows.callWith_builtin1 (args_cons (p.run _ _ E S fun s1 t h S1 => args_nil (len_oc hz (H _ (s1.toks + 1) (h.trans ⟨rfl, rfl, rfl⟩) S1))) h2) h2 ?_
  rfl
theorem EX.intB (p : EX c l ω e (.val (.bool q)) ω1) (e0 : nsIn c.K mainGlobals (Str.ofString "int") = some none := by rfl)
    (hn : Str.ofString "int" ≠ "__name__" := by decide) (hx : c.env.kindOf (Str.ofString "int") = some .globalImplicit := by rfl) (hd : (Str.ofString "int" == ("__debug__" : Str)) = false := by decide)
    (h1 : eval (.Call (.Name (Str.ofString "int") pos1) [e] [] pos) c.env = (do
        let f1 ← eval (.Name (Str.ofString "int") pos1) c.env
        callWith pos f1 [] (backTo pos (starEach [e] c.env)) (backToKw pos (keywordEach [] c.env))) := by rfl)
    (h2 : starEach [e] c.env = (false, eval e c.env) :: starEach [] c.env := by rfl) : EX c l ω (.Call (.Name (Str.ofString "int") pos1) [e] [] pos) (.int (if q then 1 else 0)) ω1 := .mk fun s Q E S H => by
  refine St.elim S fun vs nw a led F N => ?_
  refine Call_ (nameX_B F c.X (topRead_of c.T) e0 boot_int hn ?_ c.hk hx hd) h1
  refine Pv.callWith_type1 (args_cons (p.run _ _ E S fun s1 t h S1 => args_nil (call_int_bool (H _ s1.toks (h.trans ⟨rfl, rfl, rfl⟩) S1))) h2) h2
theorem EX.item (p1 : EX c l ω e1 (.bytes b) ω1) (p2 : EX c l ω1 e2 (.int i) ω2) (hz : b.length ≤ 1099511627776) (h0 : 0 ≤ i) (h1 : i < b.length)
    (hs : ∀ t u, subscripted e2 false (.bytes b.toArray t) (.int i u) = operate [.bytes b.toArray t, .int i u] (getItem (.bytes b.toArray t) (.int i u)) := by intro _ _; with_unfolding_all rfl)
    (ht : ∀ t r, letTemporaryGo e1 (.bytes b.toArray t) r = pure () := by intro _ _; with_unfolding_all rfl) : EX c l ω (.Subscript e1 e2 pos) (.int ((b.getD i.toNat 0).toNat : Int)) ω2 := .mk fun s Q E S H =>
  Subscript_ (p1.run s _ E S fun s1 t h1' S1 => p2.run _ _ E S1 fun s2 t' h2 S2 => subscriptTail_builtin (typeIs_bytes _ _ _) FB.slot_bytes_getitem.lookup (getItem_bytes hz h0 h1 (H _ s2.toks ((h1'.trans h2).trans ⟨rfl, rfl, rfl⟩) S2)) (hs t t') (ht t))
theorem st_attr {s : Shared} {Q : Unit → Shared → Prop} {E : Value → Shared → Prop} (t : Tok) (S : St c l ω s) (hs : l.lookup ny = some (.val (.ref c.Λ.x))) (hz : Nat.ble (upd nx x (c.Λ.fs ω)).length 1000 = true) (o : AOk c.K c.Λ.C nx)
    (hx : c.env.kindOf ny = some .local) (hd : (ny == ("__debug__" : Str)) = false) (H : ∀ s', Same s s' → St c l (c.Λ.put ω (upd nx x (c.Λ.fs ω))) s' → Q () s') :
    wpAny c.M c.A (assign (.Attribute (.Name ny pos1) nx pos) c.env (x.v t)) Q E s :=
  kas_attr ((EX.nm hs hx hd).run s _ E S fun s1 _ h1 S1 => self_set t S1 hz o fun s2 h2 S2 => H s2 (h1.trans h2) S2)
theorem st_drop {s : Shared} {p : Addr × Obj} {vs : Str → Option Value} {nw : List (Addr × Obj)} {h : Heap} (a : Rl l vs) (led : c.Λ.Led ω nw) (F : Fr c.g c.L h vs) (N : News c.g c.L h (p :: nw)) : St c l ω { s with heap := h } := ⟨vs, nw, a, led, F, fun q hq => N q (.tail _ hq)⟩
theorem SX.at2 {k1 k2 : Nat} (hs : l.lookup ny = some (.val (.ref c.Λ.x))) (p1 : EX c l ω e1 x1 ω) (p2 : EX c l ω e2 x2 ω)
    (r : SX c l (c.Λ.put (c.Λ.put ω (upd n1 x1 (c.Λ.fs ω))) (upd n2 x2 (c.Λ.fs (c.Λ.put ω (upd n1 x1 (c.Λ.fs ω)))))) rest out) (z1 : Nat.ble (upd n1 x1 (c.Λ.fs ω)).length 1000 = true) (z2 : Nat.ble (upd n2 x2 (c.Λ.fs (c.Λ.put ω (upd n1 x1 (c.Λ.fs ω))))).length 1000 = true) (o1 : AOk c.K c.Λ.C n1) (o2 : AOk c.K c.Λ.C n2)
    (hs1 : swapsWithSole [Expr.Tuple [.Attribute (.Name ny pos5) n1 pos1, .Attribute (.Name ny pos6) n2 pos2] k1 pos3] (.Tuple [e1, e2] k2 pos4) pos.line c.env = pure false := by rfl)
    (hs2 : swappedStores [Expr.Tuple [.Attribute (.Name ny pos5) n1 pos1, .Attribute (.Name ny pos6) n2 pos2] k1 pos3] (.Tuple [e1, e2] k2 pos4) c.env = pure none := by rfl)
    (ha : starEach [e1, e2] c.env = (false, eval e1 c.env) :: starEach [e2] c.env := by rfl) (hb : starEach [e2] c.env = (false, eval e2 c.env) :: starEach [] c.env := by rfl)
    (hx : c.env.kindOf ny = some .local := by rfl) (hd : (ny == ("__debug__" : Str)) = false := by decide) :
    SX c l ω (.Assign [.Tuple [.Attribute (.Name ny pos5) n1 pos1, .Attribute (.Name ny pos6) n2 pos2] k1 pos3] (.Tuple [e1, e2] k2 pos4) pos :: rest) out := .mk fun s Q E S H => by
  refine wpAny_execs_cons (Assign_Tuple (PyProof.Rows.Tuple_ (args_cons (p1.run _ _ E S fun s1 t1 h1 S1 => args_cons (p2.run _ _ E S1 fun s2 t2 h2 S2 => args_nil ?_) hb) ha)) hs1 hs2)
  refine St.elim S2 fun vs nw a led F2 N2 => ?_
  refine kup_newTuple F2 N2 (fun D h3 F3 N3 lt => ?_) (by rw [sizeLine_eq]; exact Nat.le_of_ble_eq_true rfl)
  refine unpackN_ (items := #[x1.v t1, x2.v t2]) F3 N3 (News.isTup N3 (.head _)) rfl rfl rfl (fun h4 F4 N4 => ?_)
  refine assignInOrder_cons (st_attr t1 (ω := ω) (st_drop a led F4 N4) hs z1 o1 hx hd fun s5 h5 S5 => ?_)
  refine assignInOrder_cons (st_attr t2 S5 hs z2 o2 hx hd fun s6 h6 S6 => ?_)
  exact assignInOrder_nil (r.run _ _ E S6 (H.on (((h1.trans h2).trans ⟨h5.1, h5.2⟩).trans h6)))
theorem SX.at4 {k1 k2 : Nat} (hs : l.lookup ny = some (.val (.ref c.Λ.x))) (p1 : EX c l ω e1 x1 ω) (p2 : EX c l ω e2 x2 ω) (p3 : EX c l ω e3 x3 ω) (p4 : EX c l ω e4 x4 ω)
    (d1 : ω1 = c.Λ.put ω (upd n1 x1 (c.Λ.fs ω))) (d2 : ω2 = c.Λ.put ω1 (upd n2 x2 (c.Λ.fs ω1))) (d3 : ω3 = c.Λ.put ω2 (upd n3 x3 (c.Λ.fs ω2))) (d4 : ω4 = c.Λ.put ω3 (upd n4 x4 (c.Λ.fs ω3))) (r : SX c l ω4 rest out) (z1 : Nat.ble (upd n1 x1 (c.Λ.fs ω)).length 1000 = true) (z2 : Nat.ble (upd n2 x2 (c.Λ.fs ω1)).length 1000 = true) (z3 : Nat.ble (upd n3 x3 (c.Λ.fs ω2)).length 1000 = true) (z4 : Nat.ble (upd n4 x4 (c.Λ.fs ω3)).length 1000 = true) (o1 : AOk c.K c.Λ.C n1) (o2 : AOk c.K c.Λ.C n2) (o3 : AOk c.K c.Λ.C n3) (o4 : AOk c.K c.Λ.C n4)
    (hs1 : swapsWithSole [Expr.Tuple [.Attribute (.Name ny pos5) n1 pos1, .Attribute (.Name ny pos6) n2 pos2, .Attribute (.Name ny pos7) n3 pos8, .Attribute (.Name ny pos9) n4 posA] k1 pos3] (.Tuple [e1, e2, e3, e4] k2 pos4) pos.line c.env = pure false := by rfl)
    (hs2 : swappedStores [Expr.Tuple [.Attribute (.Name ny pos5) n1 pos1, .Attribute (.Name ny pos6) n2 pos2, .Attribute (.Name ny pos7) n3 pos8, .Attribute (.Name ny pos9) n4 posA] k1 pos3] (.Tuple [e1, e2, e3, e4] k2 pos4) c.env = pure none := by rfl)
    (ha : starEach [e1, e2, e3, e4] c.env = (false, eval e1 c.env) :: starEach [e2, e3, e4] c.env := by rfl) (hb : starEach [e2, e3, e4] c.env = (false, eval e2 c.env) :: starEach [e3, e4] c.env := by rfl) (hc : starEach [e3, e4] c.env = (false, eval e3 c.env) :: starEach [e4] c.env := by rfl) (he : starEach [e4] c.env = (false, eval e4 c.env) :: starEach [] c.env := by rfl)
    (hx : c.env.kindOf ny = some .local := by rfl) (hd : (ny == ("__debug__" : Str)) = false := by decide) :
    SX c l ω (.Assign [.Tuple [.Attribute (.Name ny pos5) n1 pos1, .Attribute (.Name ny pos6) n2 pos2, .Attribute (.Name ny pos7) n3 pos8, .Attribute (.Name ny pos9) n4 posA] k1 pos3] (.Tuple [e1, e2, e3, e4] k2 pos4) pos :: rest) out := .mk fun s Q E S H => by
  subst d1 d2 d3 d4
  refine wpAny_execs_cons (Assign_Tuple (PyProof.Rows.Tuple_ (args_cons (p1.run _ _ E S fun s1 t1 h1 S1 => args_cons (p2.run _ _ E S1 fun s2 t2 h2 S2 => args_cons (p3.run _ _ E S2 fun s3 t3 h3 S3 => args_cons (p4.run _ _ E S3 fun s4 t4 h4 S4 => args_nil ?_) he) hc) hb) ha)) hs1 hs2)
  refine St.elim S4 fun vs nw a led F2 N2 => ?_
  refine kup_newTuple F2 N2 (fun D hp F3 N3 lt => ?_) (by rw [sizeLine_eq]; exact Nat.le_of_ble_eq_true rfl)
  refine unpackN_ (items := #[x1.v t1, x2.v t2, x3.v t3, x4.v t4]) F3 N3 (News.isTup N3 (.head _)) rfl rfl rfl (fun hq F4 N4 => ?_)
  refine assignInOrder_cons (st_attr t1 (ω := ω) (st_drop a led F4 N4) hs z1 o1 hx hd fun s5 h5 S5 => ?_)
  refine assignInOrder_cons (st_attr t2 S5 hs z2 o2 hx hd fun s6 h6 S6 => ?_)
  refine assignInOrder_cons (st_attr t3 S6 hs z3 o3 hx hd fun s7 h7 S7 => ?_)
  refine assignInOrder_cons (st_attr t4 S7 hs z4 o4 hx hd fun s8 h8 S8 => ?_)
  exact assignInOrder_nil (r.run _ _ E S8 (H.on ((((((h1.trans h2).trans h3).trans h4).trans ⟨h5.1, h5.2⟩).trans (h6.trans h7)).trans h8)))
end
end
section -- HR
theorem kw_2 : True := by
  w_top off
  k_with "bi" => first | exact Bi.add | exact Bi.sub
  k_with "cm" => first | exact Cm.lt | exact Cm.gt | exact Cm.geI | exact Cm.eq | exact Cm.ne | exact Cm.eqB | exact Cm.neB | exact Cm.isNN | exact Cm.isIN | exact Cm.notNN | exact Cm.notIN | exact Cm.notBN
  k_with "bt" => first | with_reducible rfl | with_reducible assumption | exact decide_eq_true (by omega) | exact decide_eq_false (by omega) | exact and_f (decide_eq_false (by omega)) | ((simp only [Bool.not_true, Bool.not_false, Bool.true_and, Bool.false_and, Bool.and_true, Bool.and_false, Bool.true_or, Bool.false_or, Bool.or_true, Bool.or_false, Bool.false_eq_true, if_false, if_true, Int.add_zero]); first | done | exact decide_eq_true (by omega) | exact decide_eq_false (by omega) | exact and_f (decide_eq_false (by omega)))
  k_with "ex" => first
      | ((with_reducible show EX _ _ _ (Expr.Name _ _) _ _); exact EX.nm rfl)
      | ((with_reducible show EX _ _ _ (Expr.Constant _ _ _) _ _); first | exact EX.ci | exact EX.cb | exact EX.cn | exact EX.ct)
      | ((with_reducible show EX _ _ _ (Expr.Attribute _ _ _) _ _); exact EX.attr rfl rfl (by walk_at "aok"))
      | ((with_reducible show EX _ _ _ (Expr.BinOp _ _ _ _) _ _); exact EX.bin (by walk_at "ex") (by walk_at "ex") (by walk_at "bi"))
      | ((with_reducible show EX _ _ _ (Expr.Call (Expr.Name _ _) _ _ _) _ _); first | exact EX.len (by walk_at "ex") (by walk_at "sz") | exact EX.intB (by walk_at "ex") | walk_at "exf")
      | ((with_reducible show EX _ _ _ (Expr.Call (Expr.Attribute _ _ _) _ _ _) _ _); walk_at "mc")
      | ((with_reducible show EX _ _ _ (Expr.List _ _) _ _); walk_at "exl")
      | ((with_reducible show EX _ _ _ (Expr.UnaryOp _ _ _) _ _); exact EX.neg (by walk_at "ex"))
      | ((with_reducible show EX _ _ _ (Expr.Subscript _ (Expr.Slice none _ _ _) _) _ _); walk_at "slj")
      | ((with_reducible show EX _ _ _ (Expr.Subscript _ (Expr.Slice _ none _ _) _) _ _); walk_at "sli")
      | ((with_reducible show EX _ _ _ (Expr.Call (Expr.Attribute (Expr.Attribute _ _ _) _ _) _ _ _) _ _); walk_at "dsk")
      | ((with_reducible show EX _ _ _ (Expr.Subscript _ _ _) _ _); exact EX.item (by walk_at "ex") (by walk_at "ex") (by walk_at "sz") (by walk_at "sz") (by walk_at "sz"))
      | ((with_reducible show EX _ _ _ (Expr.IfExp _ _ _ _) _ _); first | exact EX.if1 (TX.cast (by walk_at "tx") (by walk_at "bt")) (by walk_at "ex") | exact EX.if2 (TX.cast (by walk_at "tx") (by walk_at "bt")) (by walk_at "ex"))
  k_with "tx" => first
      | ((with_reducible show TX _ _ _ (Expr.UnaryOp _ _ _) _ _); exact TX.nt (by walk_at "tx"))
      | ((with_reducible show TX _ _ _ (Expr.Compare _ _ _ _) _ _); exact TX.cmp (by walk_at "ex") (by walk_at "ex") (by walk_at "cm"))
      | ((with_reducible show TX _ _ _ (Expr.BoolOp _ [_, _, _] _) _ _); exact TX.and3 (by walk_at "tx") (by walk_at "tx") (by walk_at "tx"))
      | ((with_reducible show TX _ _ _ (Expr.BoolOp BoolOp.And [_, _] _) _ _); first | exact TX.and (by walk_at "tx") (by walk_at "tx") | exact TX.and1 (TX.cast (by walk_at "tx") (by walk_at "bt")))
      | ((with_reducible show TX _ _ _ (Expr.BoolOp BoolOp.Or [_, _] _) _ _); exact TX.or (by walk_at "tx") (by walk_at "tx"))
      | ((with_reducible show TX _ _ _ (Expr.IfExp _ _ _ _) _ _); first | exact TX.ifT (TX.cast (by walk_at "tx") (by walk_at "bt")) (by walk_at "tx") | exact TX.ifF (TX.cast (by walk_at "tx") (by walk_at "bt")) (by walk_at "tx"))
      | ((with_reducible show TX _ _ _ (Expr.Name _ _) _ _); exact TX.vlN (by walk_at "ex"))
      | ((with_reducible show TX _ _ _ (Expr.Attribute _ _ _) _ _); exact TX.vlA (by walk_at "ex"))
  k_with "sx" => first
      | ((with_reducible show SX _ _ _ [] _); first | exact SX.nil | exact SX.nilF)
      | ((with_reducible show SX _ _ _ (Stmt.Assign [Expr.Name _ _] _ _ :: _) _); exact SX.asg (by walk_at "ex") (by walk_at "sx"))
      | ((with_reducible show SX _ _ _ (Stmt.Assign [Expr.Attribute _ _ _] _ _ :: _) _); exact SX.aset rfl (by walk_at "ex") (by walk_at "sx") (by rfl) (by walk_at "aok"))
      | ((with_reducible show SX _ _ _ (Stmt.AugAssign (Expr.Attribute _ _ _) _ _ _ :: _) _); exact SX.aug rfl rfl (by walk_at "ex") (by first | exact Ip.add | exact Ip.sub) (by walk_at "sx") (by rfl) (by walk_at "aok"))
      | ((with_reducible show SX _ _ _ (Stmt.Assign [Expr.Subscript _ _ _] _ _ :: _) _); walk_at "dst")
      | ((with_reducible show SX _ _ _ (Stmt.Return (some _) _ :: _) _); first | exact SX.ret (by walk_at "ex") | exact SX.retC (by walk_at "ex") (by walk_at "av"))
      | ((with_reducible show SX _ _ _ (Stmt.Return none _ :: _) _); exact SX.retN)
      | ((with_reducible show SX _ _ _ (Stmt.Expr _ _ :: _) _); exact SX.exp (by walk_at "ex") (by walk_at "sx"))
      | ((with_reducible show SX _ _ _ (Stmt.Assign [Expr.Tuple [_, _] _ _] _ _ :: _) _); exact SX.at2 rfl (by walk_at "ex") (by walk_at "ex") (by walk_at "sx") (by rfl) (by rfl) (by walk_at "aok") (by walk_at "aok"))
      | ((with_reducible show SX _ _ _ (Stmt.Assign [Expr.Tuple [_, _, _, _] _ _] _ _ :: _) _); exact SX.at4 rfl (by walk_at "ex") (by walk_at "ex") (by walk_at "ex") (by walk_at "ex") rfl rfl rfl rfl (by walk_at "sx") (by rfl) (by rfl) (by rfl) (by rfl) (by walk_at "aok") (by walk_at "aok") (by walk_at "aok") (by walk_at "aok"))
      | ((with_reducible show SX _ _ _ (Stmt.If _ _ _ _ :: _) _); first | exact SX.ifF (TX.cast (by walk_at "tx") (by walk_at "bt")) (by walk_at "sx") (by walk_at "sx") | exact SX.ifTr (TX.cast (by walk_at "tx") (by walk_at "bt")) (by walk_at "sx") | exact SX.ifT (TX.cast (by walk_at "tx") (by walk_at "bt")) (by walk_at "sx") (by walk_at "sx") | exact SX.ifFr (TX.cast (by walk_at "tx") (by walk_at "bt")) (by walk_at "sx"))
  k_with "mc" => (first | exact EX.meth0 rfl (by walk_at "mok") (by walk_at "mcs") (by walk_at "dp9") | exact EX.meth1 rfl (by walk_at "ex") (by walk_at "mok") (by walk_at "mcs") (by walk_at "dp9"))
  k_with "dp9" => exact Nat.lt_of_lt_of_le hdp9 (Nat.le_of_ble_eq_true rfl)
  k_with "mcofR0" => (refine' MC.of0 (fun hk bs hdp9 => ?b) (.inl rfl) ?k6 ?k7 ?k8 ?k9 ?l1 ?c2 ?c3 ?c4 ?c5; (case k6 => exact rfl); (case k7 => exact rfl); (case k8 => exact rfl); (case k9 => (intro _; kernel_rfl)); (case l1 => exact rfl); (case c2 => exact rfl); (case c3 => exact rfl); (case c4 => exact rfl); (case c5 => decide); (case b => walk_at "sx"))
  k_with "mcofR1" => ((first | refine' MC.of1 (Str.ofString "is_to_read") (fun hk bs hdp9 => ?b) (.inl rfl) rfl rfl rfl (by intro _ _; kernel_rfl) rfl rfl rfl rfl rfl (by decide) | refine' MC.of1 (Str.ofString "place") (fun hk bs hdp9 => ?b) (.inl rfl) rfl rfl rfl (by intro _ _; kernel_rfl) rfl rfl rfl rfl rfl (by decide) | refine' MC.of1 (Str.ofString "octets") (fun hk bs hdp9 => ?b) (.inl rfl) rfl rfl rfl (by intro _ _; kernel_rfl) rfl rfl rfl rfl rfl (by decide)); (case b => walk_at "sx"))
  k_with "mcofN0" => (refine' MC.of0 (fun hk bs hdp9 => ?b) (.inr ⟨rfl, rfl⟩) ?k6 ?k7 ?k8 ?k9 ?l1 ?c2 ?c3 ?c4 ?c5; (case k6 => exact rfl); (case k7 => exact rfl); (case k8 => exact rfl); (case k9 => (intro _; kernel_rfl)); (case l1 => exact rfl); (case c2 => exact rfl); (case c3 => exact rfl); (case c4 => exact rfl); (case c5 => decide); (case b => walk_at "sx"))
  k_with "mcofN1" => ((first | refine' MC.of1 (Str.ofString "is_to_read") (fun hk bs hdp9 => ?b) (.inr ⟨rfl, rfl⟩) rfl rfl rfl (by intro _ _; kernel_rfl) rfl rfl rfl rfl rfl (by decide) | refine' MC.of1 (Str.ofString "place") (fun hk bs hdp9 => ?b) (.inr ⟨rfl, rfl⟩) rfl rfl rfl (by intro _ _; kernel_rfl) rfl rfl rfl rfl rfl (by decide) | refine' MC.of1 (Str.ofString "octets") (fun hk bs hdp9 => ?b) (.inr ⟨rfl, rfl⟩) rfl rfl rfl (by intro _ _; kernel_rfl) rfl rfl rfl rfl rfl (by decide)); (case b => walk_at "sx"))
  trivial
noncomputable abbrev fsR (num : Int) (nm : List UInt8) (op : Bool) (pl : Int) (la : AV) (ib : Bool) (oc : List UInt8) (at_ : Int) : FS :=
  [(Str.ofString "number", .int num), (Str.ofString "name", .bytes nm), (Str.ofString "can_read", .val (.bool true)), (Str.ofString "can_write", .val (.bool false)), (Str.ofString "is_open", .val (.bool op)),
   (Str.ofString "place", .int pl), (Str.ofString "last", la), (Str.ofString "is_back", .val (.bool ib)), (Str.ofString "octets", .bytes oc), (Str.ofString "at", .int at_)]
theorem cgR {P : Params} : CGet (hd.heap_1 P) 226 := ⟨by kernel_rfl, by kernel_rfl, by kernel_rfl, by kernel_rfl⟩
theorem okR_number {P : Params} : AOk (hd.heap_1 P) 226 (Str.ofString "number") := .of cgR (by kernel_rfl)
theorem okR_name {P : Params} : AOk (hd.heap_1 P) 226 (Str.ofString "name") := .of cgR (by kernel_rfl)
theorem okR_can_read {P : Params} : AOk (hd.heap_1 P) 226 (Str.ofString "can_read") := .of cgR (by kernel_rfl)
theorem okR_can_write {P : Params} : AOk (hd.heap_1 P) 226 (Str.ofString "can_write") := .of cgR (by kernel_rfl)
theorem okR_is_open {P : Params} : AOk (hd.heap_1 P) 226 (Str.ofString "is_open") := .of cgR (by kernel_rfl)
theorem okR_place {P : Params} : AOk (hd.heap_1 P) 226 (Str.ofString "place") := .of cgR (by kernel_rfl)
theorem okR_last {P : Params} : AOk (hd.heap_1 P) 226 (Str.ofString "last") := .of cgR (by kernel_rfl)
theorem okR_is_back {P : Params} : AOk (hd.heap_1 P) 226 (Str.ofString "is_back") := .of cgR (by kernel_rfl)
theorem okR_octets {P : Params} : AOk (hd.heap_1 P) 226 (Str.ofString "octets") := .of cgR (by kernel_rfl)
theorem okR_at {P : Params} : AOk (hd.heap_1 P) 226 (Str.ofString "at") := .of cgR (by kernel_rfl)
theorem mkR_close {P : Params} : MOk (hd.heap_1 P) 226 (Str.ofString "close") 153 := ⟨cgR.hg, by kernel_rfl, by kernel_rfl, by kernel_rfl⟩
theorem mkR_check_open {P : Params} : MOk (hd.heap_1 P) 226 (Str.ofString "check_open") 111 := ⟨cgR.hg, by kernel_rfl, by kernel_rfl, by kernel_rfl⟩
theorem mkR_fetch {P : Params} : MOk (hd.heap_1 P) 226 (Str.ofString "fetch") 202 := ⟨cgR.hg, by kernel_rfl, by kernel_rfl, by kernel_rfl⟩
theorem mkR_next {P : Params} : MOk (hd.heap_1 P) 226 (Str.ofString "next") 97 := ⟨cgR.hg, by kernel_rfl, by kernel_rfl, by kernel_rfl⟩
theorem kw_3 : True := by
  k_with "aok" => with_reducible first | exact okR_number | exact okR_name | exact okR_can_read | exact okR_can_write | exact okR_is_open | exact okR_place | exact okR_last | exact okR_is_back | exact okR_octets | exact okR_at
  k_with "mok" => with_reducible first | exact mkR_close | exact mkR_check_open | exact mkR_fetch | exact mkR_next
  k_with "sz" => omega
  k_with "mcs" => first | exact mc_check (hx := hx) (hU := hU) | exact mc_close (hx := hx) (hU := hU) | exact mc_fetch1 (hx := hx) (hU := hU) (by omega) (by omega) (by omega) | exact mc_fetch2 (hx := hx) (hU := hU) (by omega) (by omega)
  k_with "av" => first | rfl | (congr 1; omega)
  trivial
section
variable {w : World} {x dx : Addr} {g : Obj → List (Addr × Obj)} {hx : ∀ o', (x, instObj 226 dx) ∈ g o'} {hU : ∀ o', UpdF dx o' (g o') g} {num pl at_ : Int} {nm oc : List UInt8} {op ib : Bool} {la : AV} {n : Int}
theorem mc_close : MC w (LgS w.params x dx 226 g hx hU) 695 153 [] (fsR num nm op pl la ib oc at_) (.val .none) (fsR num nm false pl (.val .none) false oc at_) := by
  walk_at "mcofN0"
theorem mc_check : MC w (LgS w.params x dx 226 g hx hU) 695 111 [.val (.bool true)] (fsR num nm true pl la ib oc at_) (.val .none) (fsR num nm true pl la ib oc at_) := by
  walk_at "mcofN1"
theorem mc_fetch1 (h0 : 0 ≤ at_) (h1 : at_ < oc.length) (hz : oc.length ≤ 1000) : MC w (LgS w.params x dx 226 g hx hU) 695 202 [] (fsR num nm op pl la ib oc at_) (.int ((oc.getD (at_ + 1 - 1).toNat 0).toNat : Int)) (fsR num nm op pl la ib oc (at_ + 1)) := by
  walk_at "mcofR0"
theorem mc_fetch2 (h1 : (oc.length : Int) ≤ at_) (hz : oc.length ≤ 1000) : MC w (LgS w.params x dx 226 g hx hU) 695 202 [] (fsR num nm op pl la ib oc at_) (.val .none) (fsR num nm op pl la ib oc at_) := by
  walk_at "mcofR0"
theorem mc_back0 : MC w (LgS w.params x dx 226 g hx hU) 695 104 [] (fsR num nm op pl (.int n) false oc at_) (.val .none) (fsR num nm op (pl - 1) (.int n) true oc at_) := by
  walk_at "mcofN0"
theorem mc_back1 : MC w (LgS w.params x dx 226 g hx hU) 695 104 [] (fsR num nm op pl (.int n) true oc at_) (.val .none) (fsR num nm op pl (.int n) true oc at_) := by
  walk_at "mcofN0"
theorem mc_pos : MC w (LgS w.params x dx 226 g hx hU) 690 216 [] (fsR num nm true pl la ib oc at_) (.int (at_ - if ib then 1 else 0)) (fsR num nm true pl la ib oc at_) := by
  walk_at "mcofR0"
noncomputable def lastOf (oc : List UInt8) (k : Int) : AV := .int ((oc.getD k.toNat 0).toNat : Int)
theorem mc_nextB : MC w (LgS w.params x dx 226 g hx hU) 690 97 [] (fsR num nm true pl (.int n) true oc at_) (.int n) (fsR num nm true (pl + 1) (.int n) false oc at_) := by
  walk_at "mcofR0"
theorem mc_next1 (h0 : 0 ≤ at_) (h1 : at_ < oc.length) (hz : oc.length ≤ 1000) : MC w (LgS w.params x dx 226 g hx hU) 690 97 [] (fsR num nm true pl la false oc at_) (.int ((oc.getD (at_ + 1 - 1).toNat 0).toNat : Int)) (fsR num nm true (pl + 1) (.int ((oc.getD (at_ + 1 - 1).toNat 0).toNat : Int)) false oc (at_ + 1)) := by
  walk_at "mcofR0"
theorem mc_next2 (h1 : (oc.length : Int) ≤ at_) (hz : oc.length ≤ 1000) : MC w (LgS w.params x dx 226 g hx hU) 690 97 [] (fsR num nm true pl la false oc at_) (.val .none) (fsR num nm false pl (.val .none) false oc at_) := by
  walk_at "mcofR0"
theorem mc_nextC (hz : oc.length ≤ 1000) : MC w (LgS w.params x dx 226 g hx hU) 690 97 [] (fsR num nm false pl la false oc at_) (.val .none) (fsR num nm false pl (.val .none) false oc at_) := by
  walk_at "mcofR0"
theorem mc_set (h0 : 0 ≤ n) (h1 : n ≤ oc.length) (hz : oc.length ≤ 1000) : MC w (LgS w.params x dx 226 g hx hU) 690 223 [.int n] (fsR num nm true pl la ib oc at_) (.val .none) (fsR num nm true n (.val .none) false oc n) := by
  walk_at "mcofN1"
theorem mc_availP (h1 : at_ - (if ib then 1 else 0) < oc.length) (hz : oc.length ≤ 1000) : MC w (LgS w.params x dx 226 g hx hU) 690 209 [] (fsR num nm true pl la ib oc at_) (.int (oc.length - at_ + (if ib then 1 else 0))) (fsR num nm true pl la ib oc at_) := by
  walk_at "mcofR0"
theorem mc_availN (h1 : (oc.length : Int) ≤ at_) (hz : oc.length ≤ 1000) : MC w (LgS w.params x dx 226 g hx hU) 690 209 [] (fsR num nm op pl la false oc at_) (.int (-1)) (fsR num nm op pl la false oc at_) := by
  walk_at "mcofR0"
theorem mc_availC (h1 : at_ < (oc.length : Int)) (hz : oc.length ≤ 1000) : MC w (LgS w.params x dx 226 g hx hU) 690 209 [] (fsR num nm false pl la false oc at_) (.int (-1)) (fsR num nm false pl la false oc at_) := by
  walk_at "mcofR0"
end
end
section -- Base
variable {w : World} {A₀ : Around} {base h₀ : Heap} {outer : List Env} {L a : Addr} {m : Str → Option Value} {news : List (Addr × Obj)} {g : Obj → List (Addr × Obj)} {s : Shared} {Q E : Value → Shared → Prop} {dp un : Nat} {gd : Option (List Code)} {cn : Str} {cs : Scope} {ccd : Value} {cl : List (Str × Addr)} {loose : List Str} {mean : ExcName → Option Value} {mg mb : Str → Option Value}
@[elab_as_elim]
theorem DkE.elim {P : Params} {x : Str} {a : AV} {l : FS} {es : List DictEntry} {G : List DictEntry → Prop} (h : DkE P ((x, a) :: l) es) (k : ∀ t k' es', DkE P l es' → G (⟨PyData.keyHash P x, .str x k', AV.v a t⟩ :: es')) : G es := by
  cases h with
  | cons t k' h' => exact k t k' _ h'
@[elab_as_elim]
theorem DkE.elim0 {P : Params} {es : List DictEntry} {G : List DictEntry → Prop} (h : DkE P [] es) (k : G []) : G es := by
  cases h
  exact k
theorem useS {x dx C : Addr} {o : Obj} {fs fs' : FS} {f : Addr} {args : List AV} {vs : List Value} {v : AV}
  (B : Below A₀ base outer h₀) (F : Fr h₀ L s.heap m) (X : (hd.heap_1 w.params).In h₀) (T : Top topProg loose mean mg mb h₀) (hk : cs.kind = .function) (hdp : dp < n)
  (N : News h₀ L s.heap news) (hx : (x, instObj C dx) ∈ news) (U : UpdF dx o news g) (hD : Dk w.params o fs) (mc : ∀ (hx : ∀ o', (x, instObj C dx) ∈ g o') (hU : ∀ o', UpdF dx o' (g o') g), MC w (LgS w.params x dx C g hx hU) n f args fs v fs') (ha : ArgsV args vs)
  (ret : ∀ o' t h' tk, Dk w.params o' fs' → Fr h₀ L h' m → News h₀ L h' (g o') → Q (v.v t) { s with heap := h', toks := tk }) :
  wpAny (model rw_on0267_01.row.prog w) (ktrTop dp un gd cn cs L a ccd cl outer) (call (.ref f) (.ref x :: vs)) Q E s := by
  obtain ⟨es, hE, rfl⟩ := hD
  have ne := inst_ne N hx (upd_mem U)
  obtain ⟨e, hU⟩ := updF_again U
  refine (mc (updF_in U hx ne) hU).run B X T hk hdp F N ⟨_, ⟨es, hE, rfl⟩, e⟩ ha fun s' t nw' h F' N' led' => ?_
  obtain ⟨o', h', rfl⟩ := led'
  rw [h.to]
  exact ret o' t _ _ h' F' N'
noncomputable def laOf (hl : Bool) (oc : List UInt8) (at_ : Int) : AV := match hl with | true => .int ((oc.getD (at_ - 1).toNat 0).toNat : Int) | false => .val .none
noncomputable def IsR (P : Params) (o : Obj) (oc : List UInt8) (at_ : Int) (hl ib : Bool) : Prop :=
  ∃ num nm, Dk P o (fsR num nm true (at_ - if ib then 1 else 0) (laOf hl oc at_) ib oc at_) ∧ 0 ≤ at_ ∧ at_ ≤ (oc.length : Int) ∧ oc.length ≤ 1000 ∧ (ib = true → hl = true) ∧ (hl = true → 1 ≤ at_)
noncomputable def IsC (P : Params) (o : Obj) (oc : List UInt8) (at_ : Int) : Prop :=
  ∃ num nm pl, Dk P o (fsR num nm false pl (.val .none) false oc at_) ∧ 0 ≤ at_ ∧ at_ ≤ (oc.length : Int) ∧ oc.length ≤ 1000
section
variable {P : Params} {o : Obj} {oc nm : List UInt8} {at_ num pl v : Int} {hl ib op : Bool} {la : AV}
theorem D_rd (h : Dk P o (fsR num nm op pl la ib oc at_)) {R : Prop} (k : ∀ k0 k1 k2 k3 k4 k5 k6 k7 k8 k9 t0 t1 t5 t6 t8 t9, o = dictOf (rdEs P k0 k1 k2 k3 k4 k5 k6 k7 k8 k9 (.int num t0) (.bytes nm.toArray t1) (.bool true) (.bool false) (.bool op) (.int pl t5) (la.v t6) (.bool ib) (.bytes oc.toArray t8) (.int at_ t9)) 10 → R) : R := by
  obtain ⟨es, h, e⟩ := h
  revert e
  refine DkE.elim h fun t0 k0 es0 h0 => ?_
  refine DkE.elim h0 fun t1 k1 es1 h1 => ?_
  refine DkE.elim h1 fun t2 k2 es2 h2 => ?_
  refine DkE.elim h2 fun t3 k3 es3 h3 => ?_
  refine DkE.elim h3 fun t4 k4 es4 h4 => ?_
  refine DkE.elim h4 fun t5 k5 es5 h5 => ?_
  refine DkE.elim h5 fun t6 k6 es6 h6 => ?_
  refine DkE.elim h6 fun t7 k7 es7 h7 => ?_
  refine DkE.elim h7 fun t8 k8 es8 h8 => ?_
  refine DkE.elim h8 fun t9 k9 es9 h9 => ?_
  refine DkE.elim0 h9 ?_
  exact fun e => k k0 k1 k2 k3 k4 k5 k6 k7 k8 k9 t0 t1 t5 t6 t8 t9 e
theorem IsR.elim {G : Prop} (h : IsR P o oc at_ hl ib)
    (k : ∀ k0 k1 k2 k3 k4 k5 k6 k7 k8 k9 t0 t1 t5 t8 t9 la num nm pl,
      o = dictOf (rdEs P k0 k1 k2 k3 k4 k5 k6 k7 k8 k9 (.int num t0) (.bytes nm t1) (.bool true) (.bool false) (.bool true)
        (.int pl t5) la (.bool ib) (.bytes oc.toArray t8) (.int at_ t9)) 10 →
      pl = at_ - (if ib then 1 else 0) → 0 ≤ at_ → at_ ≤ (oc.length : Int) → oc.length ≤ 1000 → (ib = true → hl = true) → (hl = true → 1 ≤ at_) →
      (hl = false → la = .none) → (hl = true → ∃ tl, la = .int ((oc.getD (at_ - 1).toNat 0).toNat : Int) tl) → G) : G := by
  obtain ⟨num, nm, h, a, b, c, d, f⟩ := h
  refine D_rd h fun k0 k1 k2 k3 k4 k5 k6 k7 k8 k9 t0 t1 t5 t6 t8 t9 e => k k0 k1 k2 k3 k4 k5 k6 k7 k8 k9 t0 t1 t5 t8 t9 _ num _ _ e rfl a b c d f (fun z => ?_) fun z => ?_
  · rw [z]; rfl
  · rw [z]; exact ⟨t6, rfl⟩
theorem IsC.elim {G : Prop} (h : IsC P o oc at_)
    (k : ∀ k0 k1 k2 k3 k4 k5 k6 k7 k8 k9 t0 t1 t5 t8 t9 num nm pl,
      o = dictOf (rdEs P k0 k1 k2 k3 k4 k5 k6 k7 k8 k9 (.int num t0) (.bytes nm t1) (.bool true) (.bool false) (.bool false)
        (.int pl t5) .none (.bool false) (.bytes oc.toArray t8) (.int at_ t9)) 10 →
      0 ≤ at_ → at_ ≤ (oc.length : Int) → oc.length ≤ 1000 → G) : G := by
  obtain ⟨num, nm, pl, h, a, b, c⟩ := h
  exact D_rd h fun k0 k1 k2 k3 k4 k5 k6 k7 k8 k9 t0 t1 t5 t6 t8 t9 e => k k0 k1 k2 k3 k4 k5 k6 k7 k8 k9 t0 t1 t5 t8 t9 num _ pl e a b c
theorem D_isR1 (h : Dk P o (fsR num nm true pl (.int v) ib oc at_)) (h1 : 1 ≤ at_) (hat : at_ ≤ (oc.length : Int)) (hoc : oc.length ≤ 1000) (hpl : pl = at_ - (if ib then 1 else 0)) (hv : v = ((oc.getD (at_ - 1).toNat 0).toNat : Int)) : IsR P o oc at_ true ib :=
  ⟨num, nm, by subst hpl hv; exact h, Int.le_trans (by decide) h1, hat, hoc, fun _ => rfl, fun _ => h1⟩
theorem D_isR0 (h : Dk P o (fsR num nm true pl (.val .none) false oc at_)) (h0 : 0 ≤ at_) (hat : at_ ≤ (oc.length : Int)) (hoc : oc.length ≤ 1000) (hpl : pl = at_) : IsR P o oc at_ false false :=
  ⟨num, nm, by rw [show at_ - (if false = true then 1 else 0) = at_ from Int.sub_zero _]; subst hpl; exact h, h0, hat, hoc, id, fun z => nomatch z⟩
end
section
variable {P : Params} {k0 k1 k2 k3 k4 k5 k6 k7 k8 k9 t0 t1 t5 t8 t9 tl : Tok} {num pl v at_ a' : Int} {nm : Array UInt8} {oc : List UInt8} {ib op : Bool} {la : AV}
end
end
section -- Exc1
theorem wp_lift {α : Type} {M : Model} {A : Around} {t : Sem α} {Q : α → Shared → Prop} {E : Value → Shared → Prop} {s : Shared} (hd : A.depth ≤ 700) (hu : A.units ≤ 3000)
    (h : wpAny M { A with depth := 700, units := 3000 } t Q E s) : wpAny M A t Q E s :=
  fun Γ p hΓ => h Γ p ⟨hΓ.1, Nat.le_trans hΓ.2.1 hd, hΓ.2.2.1, hΓ.2.2.2.1, Nat.le_trans hΓ.2.2.2.2 hu⟩

section
open PySem.Calls PySem.Spec Builtin Builtin.ObjectAttr
noncomputable abbrev toldD (hsh : Int) (k : Tok) (n : Nat) (v : Array UInt8) (tk : Tok) : Obj := dictOf [⟨hsh, .str (Str.ofString "told") k, .bytes v tk⟩] n
noncomputable abbrev excO (de t : Addr) (T : Value) : Obj := { cls := .ref 52, dict := some de, data := .fields #[.ref t, T, .none, .none, .bool false, .none] }
noncomputable abbrev exN (C t : Addr) : Obj := { cls := .ref C, data := .fields #[.ref t, .none, .none, .none, .bool false, .none] }
noncomputable abbrev tupO (rest : List Value) : Obj := { cls := .type "tuple", data := .seq rest.toArray }
section
variable {prog : Program} {w : World} {A : Around} {R : Result → Shared → Prop} {h : Heap} {g : Array GenState} {d : Drawn} {t : Nat} {os : OsState}
variable {nm q : Str} {C N : Addr} {bs bm : List Value} {hdct : Bool} {sn : List Str} {sub : List Value} {ab : Bool} {col : Option Bool} {dd : Option Addr} {k0 k1 k2 k3 k5 : Option Value}
theorem ex_new {rest : List Value} (hC : h.get? C = some (excClassObj nm q C N bs bm hdct sn sub ab col dd k0 k1 k2 k3 k5 "Exception.__new__")) (cE : (Value.ref C :: bm).contains (.type "Exception") = true)
    (cA : (Value.ref C :: bm).contains (.type "AttributeError") = false) (cN : (Value.ref C :: bm).contains (.type "NameError") = false) (hrest : rest.length ≤ sizeLine)
    (hq : R (.ok (.ret (.ref (h.objs.size + 1)))) ⟨(h.push (tupO rest)).push (exN C h.objs.size), g, d, t, os⟩) :
    codeAny (model prog w) A (.call (.builtin "Exception.__new__") ⟨.ref C :: rest, []⟩) R ⟨h, g, d, t, os⟩ := by
  have F := PySem.F.excBase_Exception
  have hstar := F.noStar
  have hends := F.ends
  refine codeAny_call_builtin_code (Code.quiet_builtin _ F.quiet) ?_
  simp only [checkBuiltinCall, F.newKind, F.newSplit, F.newRow]
  repeat (first | refine wpAny_loadPart_at hC ?_ | (refine wpAny_isSubtype_exc hC ?_; rw [cE]) | refine wpAny_staticBase_exc hC ?_ | refine wpAny_madeBy_exc hC ?_ | simp only [bne_self_eq_false, Bool.false_eq_true, if_false] | wp_step)
  refine codeAny_builtinAt F.entry ?_
  unfold Builtin.«BaseException.__new__»
  refine PySem.wpAt_bind ?_
  show PySem.wpAt _ _ _ (stack >>= _) _ _ _
  refine PySem.wpAt_bind (PySem.wpAt_stack fun p below => PySem.wpAt_of_wpAny ?_)
  wp_walk
  refine PySem.wpAt_of_wpAny ?_
  rw [F.owner]
  repeat (first | with_reducible refine wpAny_madeHere_exc F.canon hC ?_ | with_reducible refine wpAny_loadPart_at hC ?_ | (with_reducible refine wpAny_isSubtype_exc hC ?_; first | rw [cE] | rw [cA] | rw [cN]) | wp_step)
  show R _ _
  rw [Heap.size_push]
  exact hq
theorem ex_make {rest : List Value} {fI : Addr} (hC : h.get? C = some (excClassObj nm q C N bs bm hdct sn sub ab col dd k0 k1 k2 k3 k5 "Exception.__new__")) (cE : (Value.ref C :: bm).contains (.type "Exception") = true)
    (cA : (Value.ref C :: bm).contains (.type "AttributeError") = false) (cN : (Value.ref C :: bm).contains (.type "NameError") = false) (hrest : rest.length ≤ sizeLine)
    (call : Looks (model prog w) h (specialOf (.ref C) "__call__") (some (.builtin "type.__call__"))) (typ : Looks (model prog w) h (isInstance (.ref C) (.type "type")) true) (self : Looks (model prog w) h (isSubtype (.ref C) (.ref C)) true)
    (hi : Looks (model prog w) h (typeLookup (.ref C) "__init__") (some (.ref fI))) (hb : ∀ self, Looks (model prog w) h (bindSpecial (.ref fI) self) (.ref fI, [self]))
    (hq : codeAny (model prog w) (A.under (.builtin "type.__call__" ⟨.ref C :: rest, []⟩)) (.call (.ref fI) ⟨.ref (h.objs.size + 1) :: rest, []⟩) (InitBack (h.objs.size + 1) R) ⟨(h.push (tupO rest)).push (exN C h.objs.size), g, d, t, os⟩) :
    codeAny (model prog w) A (.call (.ref C) ⟨rest, []⟩) R ⟨h, g, d, t, os⟩ := by
  refine codeAny_of_tree ?_
  show wpAny _ _ (callAny (.ref C) _) _ _ _
  refine nd_load hC ?_
  show wpAny _ _ (callAny.viaDunder (.ref C) _) _ _ _
  unfold callAny.viaDunder
  refine wpAny_bind (call.at ?_)
  dsimp only
  rw [tc_bind]
  refine wpAny_bind (wpAny_pure (wpAny_bind (wpAny_pure ?_)))
  refine wpAny_pure (a := Fin.again (.call (.builtin "type.__call__") ⟨.ref C :: rest, []⟩)) (And.intro rfl ?_)
  refine codeAny_call_builtin_at (Code.quiet_builtin _ (by decide +kernel)) entry_typeCall (check_slot tc_kind tc_split typ (tc_args _ _ _) ?_)
  unfold Builtin.«type.__call__»
  have hm : Looks (model prog w) h (mroOf (.ref C)) (.ref C :: bm) := ((Looks.ld (part := none) hC).andThen .now).andThen .now
  have hM : Looks (model prog w) h (Bind.madeBy (.ref C)) (some "Exception.__new__") := fun A Q E s k q => by
    obtain ⟨a1, a2, a3, a4, a5⟩ := s
    exact wpAny_madeBy_exc (k _ _ hC) q
  repeat (first | simp only [List.isEmpty_cons, Bool.false_eq_true, if_false] | with_reducible refine wpAny_call ?_ | lk)
  refine ex_new hC cE cA cN hrest ?_
  have k : ∀ b o, h.get? b = some o → ((h.push (tupO rest)).push (exN C h.objs.size)).get? b = some o := fun b o e => Heap.get?_push_of_some _ (Heap.get?_push_of_some _ e)
  have hx : ((h.push (tupO rest)).push (exN C h.objs.size)).get? (h.objs.size + 1) = some (exN C h.objs.size) := by heap_get
  have t1 : Looks (model prog w) ((h.push (tupO rest)).push (exN C h.objs.size)) (typeOf (.ref (h.objs.size + 1))) (.ref C) := (Looks.ld hx).andThen .now
  have s1 := self.keeps k
  have i1 := hi.keeps k
  have b1 := (hb (.ref (h.objs.size + 1))).keeps k
  unfold isInstance callSpecial? specialOf
  repeat (first | with_reducible refine wpAny_call ?_ | lk)
  refine codeAny_mono hq fun r s' z => ?_
  rcases r with e | (v | _ | _ | _) <;> first | exact z | exact z.elim | skip
  obtain ⟨rfl, z⟩ := z
  exact wpAny_pure (wpAny_pure z)
end
section
variable {w : World} {A : Around} {E : Value → Shared → Prop} {s : Shared} {h₀ : Heap} {L : Addr} {m : Str → Option Value} {news : List (Addr × Obj)}
theorem osa_told {e t : Addr} {v : Value} {tk : Tok} {R : Result → Shared → Prop} (F : Fr h₀ L s.heap m) (N : News h₀ L s.heap ((e, exN 52 t) :: news)) (X : (hd.heap_1 w.params).In s.heap) (ap : ∀ p ∈ news, p.1 ≠ e)
    (h : ∀ de hsh k n h' tk, Fr h₀ L h' m → News h₀ L h' ((e, excO de t .none) :: (de, dictOf [⟨hsh, .str (Str.ofString "told") k, v⟩] n) :: news) → (∀ p ∈ news, p.1 ≠ de) → de ≠ e → R (.ok (.ret .none)) { s with heap := h', toks := tk }) :
    codeAny (model rw_on0267_01.row.prog w) A (.call (.builtin "object.__setattr__") ⟨[.ref e, .str (Str.ofString "told") tk, v], []⟩) R s := by
  have he := (N _ (.head _)).1
  have I : InstAt s.heap e (exN 52 t) 52 none := ⟨he, rfl, rfl, trivial⟩
  have SF := PySem.F.store_object
  have sub : Looks (model rw_on0267_01.row.prog w) s.heap (isInstance (.ref e) (.type "object")) true := I.type.andThen (looks_mroIn X (by rfl))
  refine codeAny_call_builtin SF.slot.plain SF.entry (@check_slot (model rw_on0267_01.row.prog w) _ _ s "object.__setattr__" "object" "__setattr__" (.ref e) [.str (Str.ofString "told") tk, v] [] _ SF.kind SF.split sub (SF.args (.ref e) (.str (Str.ofString "told") tk) v) ?_)
  have hcd := looks_clsIn (M := model rw_on0267_01.row.prog w) X (C := 52) (by rfl)
  have hm : Looks (model rw_on0267_01.row.prog w) s.heap (mroOf (.ref 52)) [.ref 52, .ref 39, .type "Exception", .type "BaseException", .type "object"] := hcd.andThen .now
  rw [osa_eq, refuse_eq]
  refine wpAny_bind (wpAny_bind (I.type.here (wpAny_bind (hm.here ?_))))
  rw [refuseLoop_ref, refuseLoop_ref, PySem.F.store_Exception.passes]
  refine wpAny_pure (wpAny_bind (I.type.here (wpAny_bind ((looks_findIn X (t := .ref 52) (name := Str.ofString "told") (r := none) (by rfl)).here (wpAny_bind (wpAny_pure ?_))))))
  show wpAny _ _ (storeInOwnDict (.ref e) (.ref 52) _ _ v false) _ _ _
  unfold storeInOwnDict ownDictForStores instanceDict
  refine wpAny_bind (wpAny_pure (wpAny_bind (wpAny_bind (wpAny_loadPart he (wpAny_bind (hcd.here ?_))))))
  show wpAny _ _ (alloc emptyDict >>= fun d => update e (fun o => { cls := o.cls, dict := some d, data := o.data, slots := o.slots }) >>= fun _ => pure (some d)) _ _ _
  have N1 := N.push F emptyDict
  have F1 := F.push emptyDict
  have hne : s.heap.objs.size ≠ e := Nat.ne_of_gt (Heap.lt_size he)
  obtain ⟨F2, N2⟩ := news_upd (f := fun o => { cls := o.cls, dict := some s.heap.objs.size, data := o.data, slots := o.slots }) (pre := [(s.heap.objs.size, emptyDict)]) (post := news) (d := e) (o := exN 52 t) (o' := excO s.heap.objs.size t .none) F1 N1 (by simpa using hne) ap rfl rfl
  have hnd : ∀ p ∈ (e, excO s.heap.objs.size t .none) :: news, p.1 ≠ s.heap.objs.size := fun p hp => by
    rcases List.mem_cons.mp hp with rfl | hp
    · exact hne.symm
    · exact Nat.ne_of_lt (Heap.lt_size (N p (.tail _ hp)).1)
  refine wpAny_bind (wpAny_alloc (wpAny_bind (wpAny_update (N1 (e, exN 52 t) (by simp)).1 (wpAny_pure ?_))))
  show wpAny _ _ (storeInDict s.heap.objs.size (.str (Str.ofString "told") tk) (Str.ofString "told") v) _ _ _
  have D := (N2 (s.heap.objs.size, emptyDict) (by simp)).1
  obtain ⟨U1, U2⟩ := news_upd (f := Obj.putName (Str.ofString "told") (PyData.keyHash w.params (Str.ofString "told")) (.str (Str.ofString "told") s.toks) v) (pre := []) (d := s.heap.objs.size) (o := emptyDict) F2 N2 (by simp) hnd (o' := dictOf [⟨PyData.keyHash w.params (Str.ofString "told"), .str (Str.ofString "told") s.toks, v⟩] 1) (by rfl) rfl
  have D' := (U2 (s.heap.objs.size, _) (.head _)).1
  unfold storeInDict newKeyGuard nsSet
  refine wpAny_bind (wpAny_pure (wpAny_bind (wpAny_bind (wpAny_bind (wpAny_askSetting (wpAny_pure (wpAny_bind (wpAny_mkText (wpAny_bind (wpAny_loadPart D ?_))))))))))
  dsimp only
  rw [aRefKeyMayBeTheName_at, show (!(#[] : Array DictEntry).any (·.key.isStr (Str.ofString "told")) && (#[] : Array DictEntry).any (·.refKey)) = false from by simp]
  refine wpAny_updatePart D ?_
  refine wpAny_bind (wpAny_lookBehind D' (pastItsLine_dict (by rw [List.size_toArray, sizeLine_eq, List.length_singleton]; decide)) ?_)
  have NN : News h₀ L _ ((e, excO s.heap.objs.size t .none) :: (s.heap.objs.size, dictOf [⟨PyData.keyHash w.params (Str.ofString "told"), .str (Str.ofString "told") s.toks, v⟩] 1) :: news) := fun p hp => by
    rcases List.mem_cons.mp hp with rfl | hp
    · exact U2 _ (.tail _ (.head _))
    · rcases List.mem_cons.mp hp with rfl | hp
      · exact U2 _ (.head _)
      · exact U2 _ (.tail _ (.tail _ hp))
  exact wpAny_pure (h _ _ _ _ _ _ U1 NN (fun p hp => hnd p (.tail _ hp)) hne)
end
theorem init_ps {w : World} {A A₀ : Around} {base h₀ : Heap} {outer : List Env} {env : Env} {L : Addr} {m : Str → Option Value} {news : List (Addr × Obj)} {s : Shared} {R : Result → Shared → Prop}
  {loose : List Str} {mean : ExcName → Option Value} {mg mb : Str → Option Value} {e t : Addr} {v : Array UInt8} {tk : Tok}
  (B : Below A₀ base outer h₀) (F : Fr h₀ L s.heap m) (X : (hd.heap_1 w.params).In h₀) (T : Top topProg loose mean mg mb h₀) (hA : A.frames = some (env :: outer)) (hf : env.frame = some L) (hke : env.scope.kind = .function) (hdp : A.depth < 800)
  (N : News h₀ L s.heap ((e, exN 52 t) :: news)) (ap : ∀ p ∈ news, p.1 ≠ e)
  (ret : ∀ de hsh k n h' tk', Fr h₀ L h' m → News h₀ L h' ((e, excO de t .none) :: (de, toldD hsh k n v tk) :: news) → (∀ p ∈ news, p.1 ≠ de) → de ≠ e → R (.ok (.ret .none)) { s with heap := h', toks := tk' }) :
  codeAny (model rw_on0267_01.row.prog w) A (.call (.ref 36) ⟨[.ref e, .bytes v tk], []⟩) R s := by
  revert X
  k_fill
  intro X
  refine' code_def2 ?k1 ?k2 ?k3 ?k4 ?k5 ?kA ?kF ?kK ?k6 ?k7 ?k8 ?k9 ?n9 ?r9 ?e9 ?kB ?_ ?c2 ?c3 ?c4 ?c5; (case kA => exact hA); (case kF => exact hf); (case kK => exact hke); (case k1 => exact B); (case k2 => exact F); (case k3 => exact X); (case k4 => exact N); (case k5 => exact T); (case k6 => k_is); (case k7 => k_is); (case k8 => exact Nat.lt_of_lt_of_le hdp (by decide)); (case k9 => first | exact BindsTo.of_eq rfl | exact binds_K (by k_in) rfl (by k_is) rfl rfl rfl | fail "k_enter: no rule for these arguments"); (case n9 => repeat' (first | exact NormL.nil | refine' NormL.cons _)); (case r9 => repeat' (first | exact NormL.nil | refine' NormL.cons _)); (case e9 => kernel_rfl); (case c5 => decide); (case kB => exact locs rfl); (case c2 => exact rfl); (case c3 => exact rfl); (case c4 => exact rfl)
  intro g' L' h' tk' FG' F' N' B' X' T'; (try dsimp only at F'); (try dsimp only)
  k_steps
  refine set_plain (od := none) (ox := exN 52 t) (X'.keeps F'.keep) ⟨(N' _ (.head _)).1, rfl, rfl, trivial⟩ (by rfl) (osa_told F' N' (X'.keeps F'.keep) ap fun de hsh k n h2 tk2 F2 N2 l1 l2 => ?_)
  dsimp only
  k_steps
  exact ret _ _ _ _ _ _ (by assumption) (by assumption) l1 l2

end
end
section -- Exc2
open PySem.Calls PySem.Spec in
noncomputable def Fy (B : Heap) (l : List Env) (e de : Addr) (x3 : Value) (h : Heap) : Prop :=
  B.StaysIn h ∧ B.get? e = none ∧ h.FunFrames B l ∧
  ∃ t T oT ts, h.get? e = some (excO de t (.ref T)) ∧ B.get? T = none ∧ T ≠ e ∧ h.get? T = some oT ∧ oT.data = .fields ts ∧ ts[3]? = some x3

section
variable {M : Model} {A : Around} {E : Value → Shared → Prop} {s : Shared} {B : Heap} {env : Env} {outer l : List Env} {L e de t : Addr} {head x3 : Value} {Q : Unit → Shared → Prop}

theorem fy_put {h₁ : Heap} {ob : Obj} {ts : Array Value} (hob : ob.data = .fields ts) (h3 : ts[3]? = some x3) (hB : B.StaysIn h₁) (hen : B.get? e = none) (hl : h₁.FunFrames B l)
    (he : h₁.get? e = some (excO de t head)) (h : ∀ h', Fy B l e de x3 h' → h₁.UpToSlots h' → Q () { s with heap := h' }) :
    wpAny M A (setField (.ref e) 1 (.ref h₁.objs.size)) Q E { s with heap := h₁.push ob } := by
  have hfree : ob.isFreed = false := by
    obtain ⟨c, d, dt, sl⟩ := ob
    simp only at hob
    subst hob; rfl
  have he₂ := Heap.get?_push_of_some (h := h₁) ob he
  have hTe : h₁.objs.size ≠ e := Nat.ne_of_gt (Heap.lt_size he)
  have hBT : B.get? h₁.objs.size = none := by
    cases q : B.get? h₁.objs.size with
    | none => rfl
    | some o => exact absurd (Heap.lt_size (hB _ _ q)) (Nat.lt_irrefl _)
  refine wpAny_setField he₂ rfl (by simp) (h _ ⟨fun b o q => ?_, hen, hl.of_keeps fun b o q hn => ⟨o, ?_, rfl⟩, t, h₁.objs.size, ob, ts, ?_, hBT, hTe, ?_, hob, h3⟩ fun b o q hn => ⟨o.slots, ?_⟩)
  · have hne : e ≠ b := fun z => by rw [← z, hen] at q; cases q
    exact (Heap.get?_update_other _ _ hne).trans (Heap.get?_push_of_some _ (hB _ _ q))
  · have hne : e ≠ b := fun z => by
      rw [← z, he] at q
      cases q
      exact hn _ rfl
    exact (Heap.get?_update_other _ _ hne).trans (Heap.get?_push_of_some _ q)
  · exact Heap.get?_update_self _ he₂ rfl
  · exact (Heap.get?_update_other _ _ (Ne.symm hTe)).trans (Heap.get?_push_size h₁ hfree)
  · have hne : e ≠ b := fun z => by
      rw [← z, he] at q
      cases q
      exact hn _ rfl
    exact (Heap.get?_update_other _ _ hne).trans (Heap.get?_push_of_some _ q)

theorem fy_entry {hadNext : Bool} (hfr : A.frames = some (env :: outer)) (hl : s.heap.FunFrames B (env :: outer)) (hf : env.frame = some L) (he : s.heap.get? e = some (excO de t head)) (hB : B.StaysIn s.heap) (hen : B.get? e = none)
    (h : ∀ h', Fy B (env :: outer) e de (rawInt L) h' → s.heap.UpToSlots h' → Q () { s with heap := h' }) :
    wpAny M A (do let a ← frameOf env; let pl ← entryPlaceOf L hadNext; let b ← EntryCells.newEntry head a .none (rawInt L) .none pl; setField (.ref e) 1 b) Q E s := by
  have hout : e ∉ (env :: outer).filterMap (·.frame) := fun hm => by
    obtain ⟨_, o, ho, hn⟩ := hl.mem hm
    rw [he] at ho
    cases ho
    exact hn _ rfl
  refine wpAny_bind (wpAny_frameOf_fun hfr hl hf fun h₁ hs => ?_)
  refine wpAny_bind (wpAny_entryPlaceOf fun pl hpl => ?_)
  unfold EntryCells.newEntry newFields
  refine wpAny_bind (wpAny_newObj_type ?_ (hpl.sizeOk5 _ _ _ _ _))
  refine fy_put (l := env :: outer) (x3 := rawInt L) rfl ?_ (fun b o q => ?_) hen (Heap.FunFrames.of_slotsOnly hs hl) ((hs.2.1 e hout).trans he) fun h' f u => h h' f fun b o q hn => ?_
  · rcases hpl with rfl | ⟨_, _, _, _, _, _, _, rfl⟩ <;> simp
  · refine (hs.2.1 b fun hm => ?_).trans (hB b o q)
    rw [(hl.mem hm).1] at q; cases q
  · obtain ⟨sl, hsl⟩ := hs.2.2 b o q
    obtain ⟨sl2, h2⟩ := u b { o with slots := sl } hsl hn
    exact ⟨sl2, h2⟩

theorem fy_setFlight (F : Fy B l e de x3 s.heap) (h : ∀ h', Fy B l e de .none h' → s.heap.UpToSlots h' → Q () { s with heap := h' }) :
    wpAny M A (setFlight (.ref e) none) Q E s := by
  obtain ⟨hB, hen, hl, t, T, oT, ts, he, hBT, hTe, hT, hdT, h3⟩ := F
  have hsz : 3 < ts.size := (Array.getElem?_eq_some_iff.mp h3).1
  unfold setFlight
  refine wpAny_bind (wpAny_field he rfl (x := .ref T) rfl ?_)
  rw [if_pos (show (Value.ref T != Value.none) = true from by simp)]
  have hd' := Obj.data_mapFields hdT (·.setIfInBounds 3 ((none : Option Addr).elim Value.none fun f => rawInt f))
  refine wpAny_setField hT hdT hsz (h _ ⟨fun b o q => ?_, hen, hl.of_keeps fun b o q hn => ⟨o, ?_, rfl⟩, t, T, _, _, ?_, hBT, hTe, Heap.get?_update_self _ hT (Obj.isFreed_of_fields hd'), hd', ?_⟩ fun b o q hn => ⟨o.slots, ?_⟩)
  · exact (Heap.get?_update_other _ _ (fun z => by rw [← z, hBT] at q; cases q)).trans (hB b o q)
  · exact (Heap.get?_update_other _ _ (fun z => by rw [← z, hT] at q; cases q; exact hn _ hdT)).trans q
  · exact (Heap.get?_update_other _ _ hTe).trans he
  · simp [hsz]
  · exact (Heap.get?_update_other _ _ (fun z => by rw [← z, hT] at q; cases q; exact hn _ hdT)).trans q

theorem fy_note0 (hfr : A.frames = some (env :: outer)) (hl : s.heap.FunFrames B (env :: outer)) (hf : env.frame = some L) (he : s.heap.get? e = some (excO de t .none)) (hB : B.StaysIn s.heap) (hen : B.get? e = none)
    (h : ∀ h', Fy B (env :: outer) e de (rawInt L) h' → s.heap.UpToSlots h' → Q () { s with heap := h' }) :
    wpAny M A (noteFrame (.ref e) env) Q E s := by
  unfold noteFrame
  simp only [hf]
  refine wpAny_bind (wpAny_field he rfl (x := .none) rfl ?_)
  rw [if_neg (by decide)]
  exact fy_entry hfr hl hf he hB hen h

theorem fy_note (hfr : A.frames = some (env :: outer)) (hf : env.frame = some L) (F : Fy B (env :: outer) e de .none s.heap)
    (h : ∀ h', Fy B (env :: outer) e de (rawInt L) h' → s.heap.UpToSlots h' → Q () { s with heap := h' }) :
    wpAny M A (noteFrame (.ref e) env) Q E s := by
  obtain ⟨hB, hen, hl, t, T, oT, ts, he, hBT, hTe, hT, hdT, h3⟩ := F
  unfold noteFrame
  simp only [hf]
  refine wpAny_bind (wpAny_field he rfl (x := .ref T) rfl ?_)
  rw [if_pos (show (Value.ref T != Value.none) = true from by simp)]
  refine wpAny_bind (wpAny_field hT hdT h3 ?_)
  rw [if_neg (show ¬ ((Value.none == rawInt L) = true) from by simp [rawInt])]
  have hsz : 3 < ts.size := (Array.getElem?_eq_some_iff.mp h3).1
  refine wpAny_bind (wpAny_setField hT hdT hsz ?_)
  have up : s.heap.UpToSlots (s.heap.update T (Obj.mapFields (·.setIfInBounds 3 Value.none))) := fun b o q hn =>
    ⟨o.slots, (Heap.get?_update_other _ _ (fun z => by rw [← z, hT] at q; cases q; exact hn _ hdT)).trans q⟩
  refine fy_entry (B := B) (outer := outer) (L := L) (e := e) (de := de) (t := t) hfr (hl.of_keeps fun b o q hn => ⟨o, (Heap.get?_update_other _ _ (fun z => by rw [← z, hT] at q; cases q; exact hn _ hdT)).trans q, rfl⟩) hf
    ((Heap.get?_update_other _ _ hTe).trans he) (fun b o q => (Heap.get?_update_other _ _ (fun z => by rw [← z, hBT] at q; cases q)).trans (hB b o q)) hen fun h' f u => h h' f (up.trans u)

theorem fy_leave0 (hfr : A.frames = some (env :: outer)) (hl : s.heap.FunFrames B (env :: outer)) (hf : env.frame = some L) (he : s.heap.get? e = some (excO de t .none)) (hB : B.StaysIn s.heap) (hen : B.get? e = none)
    (h : ∀ h', Fy B outer e de .none h' → s.heap.UpToSlots h' → Q () { s with heap := h' }) :
    wpAny M A (leaving env (.ref e)) Q E s := by
  unfold leaving
  refine wpAny_bind (fy_note0 hfr hl hf he hB hen fun h₁ f₁ u₁ => ?_)
  refine fy_setFlight f₁ fun h₂ f₂ u₂ => h h₂ ⟨f₂.1, f₂.2.1, f₂.2.2.1.2.2, f₂.2.2.2⟩ (u₁.trans u₂)
theorem fy_leave (hfr : A.frames = some (env :: outer)) (hf : env.frame = some L) (F : Fy B (env :: outer) e de .none s.heap)
    (h : ∀ h', Fy B outer e de .none h' → s.heap.UpToSlots h' → Q () { s with heap := h' }) :
    wpAny M A (leaving env (.ref e)) Q E s := by
  unfold leaving
  refine wpAny_bind (fy_note hfr hf F fun h₁ f₁ u₁ => ?_)
  refine fy_setFlight f₁ fun h₂ f₂ u₂ => h h₂ ⟨f₂.1, f₂.2.1, f₂.2.2.1.2.2, f₂.2.2.2⟩ (u₁.trans u₂)
end
end
section -- Exc3
theorem told_get {w : World} {A : Around} {s : Shared} {Q E : Value → Shared → Prop} {v : Array UInt8} {tk : Tok} {e de t : Addr} {T : Value} {hsh : Int} {k : Tok} {n : Nat} {expr : Bool}
  (X : (hd.heap_1 w.params).In s.heap) (hd : A.depth ≤ 700) (hu : A.units ≤ 3000)
  (he : s.heap.get? e = some (excO de t T)) (hde : s.heap.get? de = some (toldD hsh k n v tk))
  (ret : ∀ tk' : Tok, Q (.bytes v tk) { s with toks := tk' }) :
  wpAny (model rw_on0267_01.row.prog w) A (getAttr (.ref e) (Str.ofString "told") expr) Q E s := by
  refine wp_lift hd hu ?_
  obtain ⟨hA, dp, fr, gd, un⟩ := A
  clear hd hu
  revert X
  k_fill
  intro X
  have L0 : Looks (model rw_on0267_01.row.prog w) s.heap (typeOf (.ref e)) (.ref 52) := (Looks.ld he).andThen .now
  have L1 := looks_findIn (M := model rw_on0267_01.row.prog w) X (t := .ref 52) (name := "__getattribute__") (r := some (.builtin "BaseException.__getattribute__")) (by rfl)
  have L2 := looks_findIn (M := model rw_on0267_01.row.prog w) X (t := .ref 52) (name := "__getattr__") (r := none) (by rfl)
  unfold getAttr getAttrBy
  refine wpAny_bind (wpAny_mkText (wpAny_holding (wpAny_bind (L0 _ _ _ _ (fun _ _ z => z) (wpAny_bind (L1 _ _ _ _ (fun _ _ z => z) ?_))))))
  show wpAny _ _ (getAttrByItsOwn _ _ _ _ _ _) _ _ _
  unfold getAttrByItsOwn hookBefore
  refine wpAny_bind (L2 _ _ _ _ (fun _ _ z => z) ?_)
  have hb : bindSpecial (.builtin "BaseException.__getattribute__") (.ref e) = pure (.builtin "BaseException.__getattribute__", [.ref e]) := by
    have hop : withoutEnding? "BaseException.__getattribute__" "#opaque" = none := by decide +kernel
    have hdat : withoutEnding? "BaseException.__getattribute__" "#data" = none := by decide +kernel
    have hk : builtinKind "BaseException.__getattribute__" = some .slot := by decide +kernel
    simp only [bindSpecial, typeOf, builtinType, hop, hdat, hk]; rfl
  unfold callGetattribute boundAndCalled
  rw [hb]
  rw [show (expr && onTheHeap (Value.builtin "BaseException.__getattribute__")) = false from by cases expr <;> rfl]
  refine wpAny_bind (wpAny_attempt (wpAny_holding ?_))
  rw [if_neg (by decide)]
  refine wpAny_bind (wpAny_pure ?_)
  have I : InstAt s.heap e (excO de t T) 52 (some (toldD hsh k n v tk)) := ⟨he, rfl, rfl, hde⟩
  have I0 := I.type (M := model rw_on0267_01.row.prog w)
  have sub : Looks (model rw_on0267_01.row.prog w) s.heap (isInstance (.ref e) (.type "BaseException")) true := I0.andThen (looks_mroIn X (by rfl))
  have ent : entryFor table "BaseException.__getattribute__" = some Builtin.«object.__getattribute__» := entryFor_alias (id' := "object.__getattribute__") (by kernel_rfl) (by decide +kernel) (by decide +kernel) (by kernel_rfl)
  refine wpAny_call (codeAny_call_builtin (by decide +kernel) ent (@check_slot (model rw_on0267_01.row.prog w) _ _ { s with toks := s.toks + 1 } "BaseException.__getattribute__" "BaseException" "__getattribute__" (.ref e) [.str (Str.ofString "told") s.toks] [] _ (by decide +kernel) (by decide +kernel) sub (by unfold argsOk; kernel_rfl) ?_))
  have L3 := looks_find (M := model rw_on0267_01.row.prog w) X I (name := Str.ofString "told") (r := .value (.bytes v tk)) (by rfl)
  refine wpAny_bind (wpAny_pure (a := (Value.ref e, [Value.str (Str.ofString "told") s.toks])) ?_)
  refine wpAny_bind (wpAny_pure ?_)
  refine wpAny_bind (I0.here (s := { s with toks := s.toks + 1 }) ?_)
  refine wpAny_bind (L3.here (s := { s with toks := s.toks + 1 }) ?_)
  refine wpAny_pure ?_
  dsimp only
  rw [handedOut_of (by rfl)]
  exact wpAny_pure (ret _)
end
section -- Exc4
open PySem.Calls PySem.Spec
noncomputable def R52 (w : World) (E : Value → Shared → Prop) (v : Value) (s₁ : Shared) : Prop :=
  ∃ e de t, v = .ref e ∧ s₁.heap.get? e = some (excO de t .none) ∧ (hd.heap_1 w.params).In s₁.heap ∧ E (.ref e) s₁

theorem raise_52 {w : World} {A : Around} {s : Shared} {Q : Flow → Shared → Prop} {E : Value → Shared → Prop} {env : Env} {x : Expr} {pos : Pos} (hh : A.handled = none)
    (h : wpAny (model rw_on0267_01.row.prog w) A (eval x env) (R52 w E) E s) : wpAny (model rw_on0267_01.row.prog w) A (exec (.Raise (some x) none pos) env) Q E s := by
  show wpAny _ A (do standAt pos; raiseStmt env (some (do let v ← eval x env; standAt pos; pure v)) none) Q E s
  refine wpAny_bind (wpAny_standAt ?_)
  unfold raiseStmt
  dsimp only
  refine wpAny_bind (wpAny_bind (wpAny_mono h (fun v s₁ h₁ => wpAny_bind (wpAny_standAt (wpAny_pure ?_))) fun _ _ x => x))
  obtain ⟨e, de, t, rfl, he, X, hE⟩ := h₁
  have T0 : ∀ {Q' : Bool → Shared → Prop}, Q' false s₁ → wpAny (model rw_on0267_01.row.prog w) A (isType (.ref e)) Q' E s₁ := fun q => by
    unfold isType loadHead
    exact wpAny_bind (wpAny_loadPart he (wpAny_pure q))
  have L0 : Looks (model rw_on0267_01.row.prog w) s₁.heap (typeOf (.ref e)) (.ref 52) := (Looks.ld he).andThen .now
  have L1 : Looks (model rw_on0267_01.row.prog w) s₁.heap (isSubtype (.ref 52) (.type "BaseException")) true := looks_subIn X (by rfl)
  have L2 : Looks (model rw_on0267_01.row.prog w) s₁.heap (typeOf (.ref 52)) (.type "type") := looks_typeIn X (by rfl)
  refine wpAny_bind (wpAny_pure ?_)
  dsimp only
  refine wpAny_bind (wpAny_holding ?_)
  unfold excFromValue isExcClass
  refine wpAny_bind (wpAny_bind (T0 ?_))
  simp only [Bool.false_eq_true, if_false]
  refine wpAny_pure ?_
  simp only [Bool.false_eq_true, if_false]
  refine wpAny_bind (wpAny_bind (L0.here (L1.here ?_)))
  simp only [if_true]
  refine wpAny_pure (wpAny_bind (T0 ?_))
  simp only [Bool.false_eq_true, if_false]
  unfold raisedInstance
  refine wpAny_bind (wpAny_bind (L0.here (wpAny_bind (L2.here ?_))))
  rw [if_pos (by decide)]
  refine wpAny_pure ?_
  unfold setFlight
  refine wpAny_bind (wpAny_bind (wpAny_field he rfl (x := .none) rfl ?_))
  rw [if_neg (by decide)]
  exact wpAny_pure (wpAny_raiseNew_none hh hE)

noncomputable def Apart (e : Addr) (news : List (Addr × Obj)) : Prop := ∀ p ∈ news, p.1 ≠ e

theorem mk_psK {w : World} {A A₀ : Around} {base : Heap} {outer : List Env} {env : Env} {s : Shared} {Q E : Value → Shared → Prop} {v : Array UInt8} {tk : Tok} {h₀ : Heap} {L : Addr} {m : Str → Option Value} {news : List (Addr × Obj)}
  {loose : List Str} {mean : ExcName → Option Value} {mg mb : Str → Option Value}
  (B : Below A₀ base outer h₀) (T : Top topProg loose mean mg mb h₀) (hA : A.frames = some (env :: outer)) (hf : env.frame = some L) (hke : env.scope.kind = .function)
  (F : Fr h₀ L s.heap m) (N : News h₀ L s.heap news) (X : (hd.heap_1 w.params).In h₀) (hd : A.depth ≤ 700)
  (ret : ∀ (e de t : Addr) (hsh : Int) (k : Tok) (n : Nat) (h' : Heap) (tk' : Tok), Fr h₀ L h' m → News h₀ L h' ((e, excO de t .none) :: (de, toldD hsh k n v tk) :: news) → Apart e ((de, toldD hsh k n v tk) :: news) → (∀ p ∈ news, p.1 ≠ de) →
    (Mine.hd.heap_1 w.params).In h' → Q (.ref e) { s with heap := h', toks := tk' }) :
  wpAny (model rw_on0267_01.row.prog w) A (call (.ref 52) [.bytes v tk]) Q E s := by
  have Xs := X.keeps F.keep
  obtain ⟨hh, g, d, t, os⟩ := s
  refine wpAny_call (ex_make (C := 52) (Xs 52 _ rfl) (by decide) (by decide) (by decide) (by size_fits) (looks_specialIn Xs (by rfl)) (looks_instIn Xs (by rfl)) (looks_mroIn Xs (by rfl)) (looks_findIn Xs (by rfl)) (fun self => bind_fn Xs self (by rfl)) ?_)
  have F1 := (F.push (tupO [.bytes v tk])).push (exN 52 hh.objs.size)
  have N1 := (N.push F (tupO [.bytes v tk])).push (F.push _) (exN 52 hh.objs.size)
  rw [Heap.size_push] at N1
  have ap1 : ∀ p ∈ news, p.1 ≠ hh.objs.size + 1 := fun p hp => Nat.ne_of_lt (Nat.lt_succ_of_lt (Heap.lt_size (N p hp).1))
  refine init_ps (e := hh.objs.size + 1) (t := hh.objs.size) (h₀ := h₀) (L := L) (m := m) (news := news) B F1 X T hA hf hke (by have := hd; simp only [depth_under_make]; omega) (fun p hp => N1 p ((List.mem_cons.mp hp).elim (fun q => q ▸ .head _) (fun q => .tail _ (.tail _ q)))) ap1 fun de hsh k n h' tk' F' N' l1 l2 => ?_
  refine ⟨rfl, ret _ de _ hsh k n h' tk' F' N' (fun p hp => ?_) l1 (X.keeps F'.keep)⟩
  rcases List.mem_cons.mp hp with rfl | hp
  · exact l2
  · exact ap1 p hp

noncomputable def RaisedE (base G : Heap) (l : List Env) (e de : Addr) (news : List (Addr × Obj)) (h : Heap) : Prop :=
  ∃ B, base.StaysIn B ∧ (∀ b o, G.get? b = some o → b ∉ l.filterMap (·.frame) → B.get? b = some o) ∧ (∀ q ∈ news, B.get? q.1 = some q.2 ∧ G.get? q.1 = none ∧ base.get? q.1 = none) ∧ Fy B l e de .none h

theorem fr_mem {env : Env} {outer : List Env} {L b : Addr} (hf : env.frame = some L) (hm : b ∈ (env :: outer).filterMap (·.frame)) : b = L ∨ b ∈ outer.filterMap (·.frame) := by
  obtain ⟨env', he, h⟩ := List.mem_filterMap.mp hm
  rcases List.mem_cons.mp he with rfl | he
  · rw [hf] at h; exact .inl (Option.some.inj h).symm
  · exact .inr (List.mem_filterMap.mpr ⟨env', he, h⟩)

section
variable {M : Model} {A : Around} {E : Value → Shared → Prop} {s' : Shared} {base g g₂ : Heap} {outer : List Env} {L e de t : Addr} {m : Str → Option Value} {env : Env} {Q : Unit → Shared → Prop} {news : List (Addr × Obj)}

theorem leave_newE (K : Below A base outer g) (F : Fr g L s'.heap m) (N : News g L s'.heap ((e, excO de t .none) :: news)) (ap : Apart e news)
    (hQ : ∀ h', RaisedE base g outer e de news h' → g.UpToSlots h' → Q () { s' with heap := h' }) (hf : env.frame = some L := by rfl) (hk : env.scope.kind = .function := by rfl) :
    wpAny M (A.deeper env) (leaving env (.ref e)) Q E s' := by
  have K' := pushX (env := env) K F hf hk
  have he := N (e, excO de t .none) (.head _)
  have hin : ∀ env' ∈ (env :: outer), ∀ b, env'.frame = some b → b ∈ e :: (env :: outer).filterMap (·.frame) := fun env' h1 b hb => .tail _ (List.mem_filterMap.mpr ⟨env', h1, hb⟩)
  have out : ∀ b o, g.get? b = some o → b ∉ outer.filterMap (·.frame) → b ∉ e :: (env :: outer).filterMap (·.frame) := fun b o q nm hm => by
    rcases List.mem_cons.mp hm with z | hm
    · rw [z, he.2.2] at q; cases q
    · rcases fr_mem hf hm with z | z
      · rw [z, kts_self F] at q; cases q
      · exact nm z
  have st : base.StaysIn (hideAll s'.heap (e :: (env :: outer).filterMap (·.frame))) := fun b o q => hideAll_get _ (K'.stays b o q) fun hm => by
    rcases List.mem_cons.mp hm with z | hm
    · have := K.stays _ _ q
      rw [z, he.2.2] at this; cases this
    · rw [(K'.frames.mem hm).1] at q; cases q
  refine fy_leave0 (B := hideAll s'.heap (e :: (env :: outer).filterMap (·.frame))) K'.stack ?_ hf he.1 (fun b o q => of_hideAll _ q) (hideAll_none _ (.head _)) fun h' f u => hQ h' ⟨_, st, fun b o q nm => hideAll_get _ (F.keep b o q) (out b o q nm), fun q hq => ?_, f⟩ ((Heap.UpToSlots.of_keeps F.keep).trans u)
  · -- the frames stand, none of them in the part that stays
    have fr := K'.frames
    clear hQ
    have go : ∀ l : List Env, s'.heap.FunFrames base l → (∀ env' ∈ l, ∀ b, env'.frame = some b → b ∈ e :: (env :: outer).filterMap (·.frame)) →
        s'.heap.FunFrames (hideAll s'.heap (e :: (env :: outer).filterMap (·.frame))) l := by
      intro l
      induction l with
      | nil => exact fun _ _ => trivial
      | cons env r ih =>
        rintro ⟨hk, ⟨L₁, o, hf, _, ho, hd⟩, hr⟩ hx
        exact ⟨hk, ⟨L₁, o, hf, hideAll_none _ (hx env (.head _) L₁ hf), ho, hd⟩, ih hr fun e' he' => hx e' (.tail _ he')⟩
    exact go _ fr hin
  · have n := N q (.tail _ hq)
    refine ⟨hideAll_get _ n.1 fun hm => ?_, n.2.2, fresh_of_stays K.stays n.2.2⟩
    rcases List.mem_cons.mp hm with z | hm
    · exact ap q hq z
    · rcases fr_mem hf hm with z | z
      · exact n.2.1 z
      · obtain ⟨o, ho, _⟩ := (K.frames.mem z).2
        rw [n.2.2] at ho; cases ho

theorem leave_onE (K : Below A base outer g) (F : Fr g L g₂ m) (R : RaisedE base g₂ (env :: outer) e de news s'.heap) (hsm : g₂.UpToSlots s'.heap)
    (hQ : ∀ h', RaisedE base g outer e de news h' → g.UpToSlots h' → Q () { s' with heap := h' }) (hf : env.frame = some L := by rfl) :
    wpAny M (A.deeper env) (leaving env (.ref e)) Q E s' := by
  obtain ⟨B, hB, hBG, hl, f⟩ := R
  refine fy_leave (Around.frames_deeper K.stack) hf f fun h' f' u => hQ h' ⟨B, hB, fun b o q nm => hBG b o (F.keep b o q) fun hm => ?_, fun q hq => ⟨(hl q hq).1, kts_none F.keep (hl q hq).2.1, (hl q hq).2.2⟩, f'⟩ ((Heap.UpToSlots.of_keeps F.keep).trans (hsm.trans u))
  rcases fr_mem hf hm with z | z
  · rw [z, kts_self F] at q; cases q
  · exact nm z
end

section
variable {w : World} {A₀ : Around} {E : Value → Shared → Prop} {s' : Shared} {base g g₀ G : Heap} {outer : List Env} {L a e de : Addr} {m : Str → Option Value} {name : Str} {scope : Scope} {cd : Value}
  {n : Str} {b₀ : Stmt} {suite : List Stmt} {pos np : Pos} {rest : List ExceptHandler} {Q : Flow → Shared → Prop} {news : List (Addr × Obj)}
  {p : Program} {loose : List Str} {mean : ExcName → Option Value} {mg mb : Str → Option Value}

theorem caught_E (R : RaisedE base G (envOf name scope L a cd :: outer) e de news s'.heap) (F : Fr g L G m) (K : Below A₀ base outer g) (hsm : G.UpToSlots s'.heap) (XB : (hd.heap_1 w.params).In base) (TB : Top p loose mean mg mb base)
    (D : KtsDicts (outer.filterMap (·.frame)) g) (T0 : KtsTurn (outer.filterMap (·.frame)) g₀ g)
    (k : ∀ h' g' t T tk, KtsTurn (outer.filterMap (·.frame)) g₀ g' → Fr g' L h' (fun y => if y = n then some (.ref e) else m y) → News g' L h' ((e, excO de t T) :: news) → Below A₀ base outer g' → (hd.heap_1 w.params).In g' → Top p loose mean mg mb g' → KtsDicts (outer.filterMap (·.frame)) g' →
      wpAny (model rw_on0267_01.row.prog w) ((A₀.deeper (envOf name scope L a cd)).mark (some (.ref e))) (execs (b₀ :: suite) (envOf name scope L a cd))
        (fun f s₄ => wpAny (model rw_on0267_01.row.prog w) (A₀.deeper (envOf name scope L a cd)) (do bindName (envOf name scope L a cd) n .none; unbindBehindTheSuite (envOf name scope L a cd) n pos) (fun _ s₅ => Q f s₅) E s₄)
        (AsSuiteRaised (model rw_on0267_01.row.prog w) ((A₀.deeper (envOf name scope L a cd)).mark (some (.ref e))) (envOf name scope L a cd) n pos (notedBy (model rw_on0267_01.row.prog w) ((A₀.deeper (envOf name scope L a cd)).mark (some (.ref e))) (envOf name scope L a cd) (cameBackBy (model rw_on0267_01.row.prog w) (A₀.deeper (envOf name scope L a cd)) (envOf name scope L a cd) E)))
        { s' with heap := h', toks := tk })
    (hk : scope.kind = .function := by rfl) (hlo : (envOf name scope L a cd).kindOf n = some .local := by rfl) (hx : (envOf name scope L a cd).kindOf (Str.ofString "PsError") = some .globalImplicit := by rfl) :
    wpAny (model rw_on0267_01.row.prog w) (A₀.deeper (envOf name scope L a cd)) (noteFrame (.ref e) (envOf name scope L a cd))
      (fun _ s₂ => wpAny (model rw_on0267_01.row.prog w) (A₀.deeper (envOf name scope L a cd)) (setFlight (.ref e) none) (fun _ s₃ =>
        wpAny (model rw_on0267_01.row.prog w) (A₀.deeper (envOf name scope L a cd)) (handleBy (.ref e) (envOf name scope L a cd) (.ExceptHandler (some (.Name (Str.ofString "PsError") np)) (some n) (b₀ :: suite) pos :: rest)) Q E s₃) E s₂) E s' := by
  obtain ⟨B, hB, hBG, hl, f⟩ := R
  have hL : B.get? L = none := by
    obtain ⟨_, ⟨L', _, hf, hn', _⟩, _⟩ := f.2.2.1
    obtain rfl : L = L' := Option.some.inj hf
    exact hn'
  refine fy_note (Around.frames_deeper K.stack) rfl f fun h₁ f₁ u₁ => ?_
  refine fy_setFlight f₁ fun h₂ f₂ u₂ => ?_
  obtain ⟨g₂, T₂, F₂, K₂⟩ := kts_ground K F hBG f₂.1 (hsm.trans (u₁.trans u₂))
  have X₂ := XB.keeps K₂.stays
  have P₂ : TopRead p loose mg mb g₂ := topRead_of (TB.keeps K₂.stays)
  have LT : Looks (model rw_on0267_01.row.prog w) h₂ (typeOf (.ref e)) (.ref 52) := by
    obtain ⟨_, _, _, t, T, oT, ts, he, _⟩ := f₂
    exact (Looks.ld he).andThen .now
  refine wpAny_handleBy_cons (codeAny_handlers_test (name_K F₂ X₂ P₂ (v := .ref 52) (by rfl) ?_ hk hx (by decide))) (by intro q; cases q)
  refine (exm_one (X₂.keeps F₂.keep) LT (b := true) (by rfl)).here (codeAny_handlers_suite_as ?_)
  refine fy_setFlight f₂ fun h₃ f₃ u₃ => ?_
  have u := hsm.trans (u₁.trans (u₂.trans u₃))
  obtain ⟨g₃, T₃, F₃, K₃⟩ := kts_ground K F hBG f₃.1 u
  have X₃ := XB.keeps K₃.stays
  have P₃ : Top p loose mean mg mb g₃ := TB.keeps K₃.stays
  obtain ⟨fB, fe, ff, t, T, oT, ts, he, fr⟩ := id f₃
  have ne₃ : g₃.get? e = none := T₃.none_ _ (kts_fresh F hBG fe fun o ho hm => by
    obtain ⟨_, o', ho', hd⟩ := K.frames.mem hm
    rw [ho] at ho'
    cases ho'
    obtain ⟨sl, hs⟩ := u _ _ (F.keep _ _ ho) hd
    rw [he] at hs
    exact hd _ (congrArg Obj.data (Option.some.inj hs)).symm)
  have N₃ : News g₃ L h₃ ((e, excO de t (.ref T)) :: news) := fun q hq => by
    rcases List.mem_cons.mp hq with rfl | hq
    · refine ⟨he, fun z => ?_, ne₃⟩
      obtain ⟨oL, es, ep, hL', hd, _⟩ := F₃.ns
      have z' : e = L := z
      rw [← z', he] at hL'
      have q' := Option.some.inj hL'
      rw [← q'] at hd
      cases hd
    · exact ⟨fB _ _ (hl q hq).1, (fun z => by have := (hl q hq).1; rw [z, hL] at this; cases this), T₃.none_ _ (kts_none F.keep (hl q hq).2.1)⟩
  refine stN F₃ N₃ (fun h₄ F₄ N₄ => ?_) hk hlo
  exact k h₄ g₃ t (.ref T) _ (T0.trans T₃) F₄ N₄ K₃ X₃ P₃ (D.turn T₃)

theorem told_getK {A : Around} {s : Shared} {Q E : Value → Shared → Prop} {v : Array UInt8} {tk : Tok} {t : Addr} {T : Value} {hsh : Int} {k : Tok} {n : Nat} {expr : Bool}
    (F : Fr g L s.heap m) (X : (hd.heap_1 w.params).In g) (N : News g L s.heap news) (h1 : (e, excO de t T) ∈ news) (h2 : (de, toldD hsh k n v tk) ∈ news) (hd : A.depth ≤ 700) (hu : A.units ≤ 3000)
    (ret : ∀ tk' : Tok, Q (.bytes v tk) { s with toks := tk' }) : wpAny (model rw_on0267_01.row.prog w) A (getAttr (.ref e) (Str.ofString "told") expr) Q E s :=
  told_get (X.keeps F.keep) hd hu (N _ h1).1 (N _ h2).1 ret
end

noncomputable def LeaveT (A₀ : Around) (base : Heap) (env : Env) (outer : List Env) (w : World) (loose : List Str) (mean : ExcName → Option Value) (mg mb : Str → Option Value) (h₀ : Heap) (L : Addr) (m : Str → Option Value) (g : Heap) (R : Result → Shared → Prop) (v : Value) (s' : Shared) : Prop :=
  ∃ g' L' m' news', KtsTurn ((env :: outer).filterMap (·.frame)) g g' ∧ Fr g' L' s'.heap m' ∧ News g' L' s'.heap news' ∧
    ∀ h₀', KtsTurn (outer.filterMap (·.frame)) h₀ h₀' → Fr h₀' L s'.heap m → News h₀' L s'.heap news' → Below A₀ base outer h₀' → (hd.heap_1 w.params).In h₀' → Top topProg loose mean mg mb h₀' → KtsDicts (outer.filterMap (·.frame)) h₀' → R (.ok (.ret v)) s'

section
variable {w : World} {A₀ A : Around} {s : Shared} {base h₀ : Heap} {outer : List Env} {env : Env} {L : Addr} {m : Str → Option Value} {news : List (Addr × Obj)} {loose : List Str} {mean : ExcName → Option Value} {mg mb : Str → Option Value}
    {R : Result → Shared → Prop} {name qual : Str} {params : Arguments} {body : List Stmt} {scope : Scope} {dV kV doc pm cdv ct oc : Value} {an od : Option Addr} {osl : Array (Option Value)} {f : Addr} {args : Args} {binds : List (Str × Value)}

theorem leaveT_back (B : Below A₀ base outer h₀) (F : Fr h₀ L s.heap m) (N : News h₀ L s.heap news) (hA : A.frames = some (env :: outer)) (hf : env.frame = some L) (hke : env.scope.kind = .function)
    (XB : (hd.heap_1 w.params).In base) (TB : Top topProg loose mean mg mb base) (D : KtsDicts (outer.filterMap (·.frame)) h₀)
    {v : Value} {s' : Shared} (hl : LeaveT A₀ base env outer w loose mean mg mb h₀ L m (hideAll s.heap (news.map (·.1))) R v s') : R (.ok (.ret v)) s' := by
  obtain ⟨FG, BG, st, _⟩ := groundX (R := R) B F N hA hf hke
  obtain ⟨g', L', m', news', T', F', N', k⟩ := hl
  have nL₀ : h₀.get? L = none := kts_self F
  obtain ⟨oL, es, ep, hLg, hLd, hLk, hLf⟩ := FG.ns
  obtain ⟨sl, hs⟩ := T'.up hLg
  obtain ⟨T₁, S₁⟩ := kts_turn_at (h := s'.heap) (fs := outer.filterMap (·.frame)) (g := h₀)
    (fun b hb => by
      obtain ⟨_, o, ho', _⟩ := B.frames.mem hb
      exact ⟨o, ho'⟩)
    (fun b o e nmem => F'.keep b o (T'.other b o (st b o e) (fun q => by
      rcases fr_mem hf q with z | z
      · rw [z, nL₀] at e; cases e
      · exact nmem z)))
    (fun b o e hm => by
      obtain ⟨sl', hs'⟩ := T'.up (st b o e)
      exact ⟨sl', F'.keep _ _ hs'⟩)
  have B₃ : Below A₀ base outer (ktsHeap s'.heap (outer.filterMap (·.frame)) h₀) := ⟨B.stack, fun b o e => T₁.other b o (B.stays b o e) (fun hm => by
    rw [(B.frames.mem hm).1] at e; cases e), B.frames.of_keeps fun b o e _ => by
    obtain ⟨sl', hs'⟩ := T₁.up e
    exact ⟨_, hs', rfl⟩⟩
  refine k _ T₁ ⟨⟨_, es, ep, F'.keep _ _ hs, hLd, hLk, hLf⟩, S₁, by rw [T₁.size]; exact F.above⟩ (fun p hp => ⟨(N' p hp).1, fun q => ?_, ?_⟩) B₃ (XB.keeps B₃.stays) (TB.keeps B₃.stays) (D.turn T₁)
  · have := (N' p hp).2.2; rw [q, hs] at this; cases this
  · refine T₁.none_ _ ?_
    cases q : h₀.get? p.1 with
    | none => rfl
    | some o =>
      obtain ⟨sl', hs'⟩ := T'.up (st _ _ q)
      have := (N' p hp).2.2
      rw [hs'] at this
      cases this

theorem code_defT (B : Below A₀ base outer h₀) (F : Fr h₀ L s.heap m) (X₀ : (hd.heap_1 w.params).In h₀) (N : News h₀ L s.heap news) (T : Top topProg loose mean mg mb h₀) (XB : (hd.heap_1 w.params).In base) (TB : Top topProg loose mean mg mb base) (D : KtsDicts (outer.filterMap (·.frame)) h₀)
    (hA : A.frames = some (env :: outer)) (hf : env.frame = some L) (hke : env.scope.kind = .function)
    (ho : (hd.heap_1 w.params).lookup f = some ⟨oc, od, .func (fnOf name qual params body scope dV kV doc pm an cdv ct), osl⟩) (hcd : codeIn (hd.heap_1 w.params) cdv qual = true) (hroom : A.depth < recursionLimit)
    (hbind : BindsTo s (fnOf name qual params body scope dV kV doc pm an cdv ct) args binds) (hloc : ∀ y ∈ binds, scope.names.lookup y.1 = some .local)
    (h : ∀ g L' h₁, Fr h₀ L g m → Fr g L' h₁ (fun y => binds.reverse.lookup y) → News g L' h₁ news → Below A base (env :: outer) g → (hd.heap_1 w.params).In g → Top topProg loose mean mg mb g → KtsDicts ((env :: outer).filterMap (·.frame)) g →
      wpAny (model rw_on0267_01.row.prog w) (A.deeper (envOf qual scope L' f cdv)) (execs body (envOf qual scope L' f cdv))
        (fun fl s' => LeaveT A₀ base env outer w loose mean mg mb h₀ L m g R (match fl with | .ret v => v | _ => .none) s')
        (fun e s' => wpAny (model rw_on0267_01.row.prog w) (A.deeper (envOf qual scope L' f cdv)) (leaving (envOf qual scope L' f cdv) e) (fun _ s'' => R (.error e) s'') (fun e' s'' => R (.error e') s'') s')
        { s with heap := h₁, toks := s.toks + binds.length })
    (hco : scope.isCoroutine = false) (hgen : scope.isGenerator = false) (hk : scope.kind = .function)
    (hcell : ∀ x ∈ scope.names, x.2 ≠ .cell) : codeAny (model rw_on0267_01.row.prog w) A (.call (.ref f) args) R s := by
  have X := X₀.keeps F.keep
  obtain ⟨FG, BG, st, _⟩ := groundX (R := R) B F N hA hf hke
  refine codeAny_call_def (fd := fnOf name qual params body scope dV kV doc pm an cdv ct) (body := body) (binds := binds) hroom (X _ _ ho) rfl (T.nolimit.keeps F.keep) (codeRec_of X hcd) rfl hbind hcell hloc (fun h₁ hns hk₁ => ?_) hco hgen hk
  refine wpAny_mono (h _ s.heap.objs.size h₁ FG ⟨hns, fun b o e => hk₁ b o (of_hideAll _ e), Nat.le_of_eq (hideAll_size _ _)⟩
    (fun p hp => ⟨hk₁ _ _ (N p hp).1, Nat.ne_of_lt (Heap.lt_size (N p hp).1), hideAll_none _ (List.mem_map_of_mem hp)⟩) BG (X₀.keeps st) (T.keeps st) (fun b hb => ?_)) (fun fl s' hl => leaveT_back B F N hA hf hke XB TB D hl) fun _ _ y => y
  obtain ⟨oL, es, ep, hLg, hLd, hLk, hLf⟩ := FG.ns
  rcases fr_mem hf hb with rfl | hb
  · exact ⟨oL, es, ep, hLg, hLd⟩
  · obtain ⟨o, es', n', ho', hd'⟩ := D b hb
    exact ⟨o, es', n', st b o ho', hd'⟩
end

theorem mark_dep (A : Around) (h : Option Value) : (A.mark h).depth = A.depth := rfl
end
section -- TNext
variable {w : World} {A₀ : Around} {base h₀ : Heap} {outer : List Env} {L a : Addr} {m : Str → Option Value} {news : List (Addr × Obj)} {g : Obj → List (Addr × Obj)} {s : Shared} {Q E : Value → Shared → Prop} {dp un : Nat} {gd : Option (List Code)} {cn : Str} {cs : Scope} {ccd : Value} {cl : List (Str × Addr)} {loose : List Str} {mean : ExcName → Option Value} {mg mb : Str → Option Value}
theorem next_R {x dx : Addr}
  {o : Obj} {oc : List UInt8} {at_ : Int} {hl ib : Bool}
  (B : Below A₀ base outer h₀) (F : Fr h₀ L s.heap m) (X : (hd.heap_1 w.params).In h₀) (T : Top topProg loose mean mg mb h₀) (hk : cs.kind = .function) (hdp : dp < 600) (hun : un < 1000)
  (N : News h₀ L s.heap news) (hx : (x, instObj 226 dx) ∈ news) (U : UpdF dx o news g) (ho : IsR w.params o oc at_ hl ib)
  (ret1 : at_ - (if ib then 1 else 0) < oc.length → ∀ o' t h' tk, IsR w.params o' oc (at_ - (if ib then 1 else 0) + 1) true false → Fr h₀ L h' m → News h₀ L h' (g o') →
    Q (.int ((oc.getD (at_ - (if ib then 1 else 0)).toNat 0).toNat : Int) t) { s with heap := h', toks := tk })
  (ret2 : at_ - (if ib then 1 else 0) = oc.length → ∀ o' h' tk, IsC w.params o' oc at_ → Fr h₀ L h' m → News h₀ L h' (g o') → Q .none { s with heap := h', toks := tk }) :
  wpAny (model rw_on0267_01.row.prog w) (ktrTop dp un gd cn cs L a ccd cl outer) (call (.ref 97) [.ref x]) Q E s := by
  obtain ⟨num, nm, hD, h0, hat, hoc, hib, h1⟩ := ho
  cases ib with
  | true =>
    obtain rfl := hib rfl
    rw [if_pos rfl] at ret1
    exact useS B F X T hk (Nat.lt_of_lt_of_le hdp (by decide)) N hx U hD (fun hx hU => mc_nextB (hx := hx) (hU := hU)) .nil fun o' t h' tk D => ret1 (by omega) o' t h' tk (by rw [Int.sub_add_cancel]; exact D_isR1 D (h1 rfl) hat hoc (by rw [if_pos rfl]; simp) rfl)
  | false =>
    have e0 : (if false = true then (1 : Int) else 0) = 0 := rfl
    rw [e0, Int.sub_zero] at ret1 ret2 hD
    by_cases hlt : at_ < (oc.length : Int)
    · exact useS B F X T hk (Nat.lt_of_lt_of_le hdp (by decide)) N hx U hD (fun hx hU => mc_next1 (hx := hx) (hU := hU) h0 hlt hoc) .nil fun o' t h' tk D => (by rw [Int.add_sub_cancel]; exact ret1 hlt o' t h' tk (D_isR1 D (by omega) (by omega) hoc (by rw [e0, Int.sub_zero]) rfl))
    · exact useS B F X T hk (Nat.lt_of_lt_of_le hdp (by decide)) N hx U hD (fun hx hU => mc_next2 (hx := hx) (hU := hU) (Int.not_lt.mp hlt) hoc) .nil fun o' t h' tk D => ret2 (by omega) o' h' tk ⟨num, nm, _, D, h0, hat, hoc⟩
end
section -- Loop1
noncomputable def Oct (vs : List Value) (got : List UInt8) : Prop := IntsAre vs (got.map fun u => ((u.toNat : Nat) : Int))
theorem Oct.length {vs : List Value} {got : List UInt8} (h : Oct vs got) : vs.length = got.length := by
  have := IntsAre.length h
  simpa using this
theorem oct_back (got : List UInt8) : ((got.map fun u => ((u.toNat : Nat) : Int)).map fun n => n.toNat.toUInt8) = got := by
  rw [List.map_map]
  conv => rhs; rw [← List.map_id got]
  refine List.map_congr_left fun u _ => ?_
  simp

section
variable {w : World} {A : Around} {E : Value → Shared → Prop} {s : Shared} {h₀ : Heap} {L l : Addr} {m : Str → Option Value} {news : List (Addr × Obj)} {vs : List Value} {got : List UInt8} {n : Nat} {Q : Value → Shared → Prop}
theorem bytes_oct (F : Fr h₀ L s.heap m) (N : News h₀ L s.heap news) (hm : (l, listOf vs.toArray n) ∈ news) (ho : Oct vs got) (hz : got.length ≤ 10000) (hh : A.handled = none)
    (h : ∀ h' t k, Fr h₀ L h' m → News h₀ L h' news → Q (.bytes got.toArray t) { s with heap := h', toks := k }) :
    wpAny (model rw_on0267_01.row.prog w) A (call (.type "bytes") [.ref l]) Q E s := by
  have hL : s.heap.IsList l vs.toArray := ⟨_, N.get hm, rfl, n, rfl⟩
  refine bytes_K F N hL ho (fun k hk => ?_) (by rw [ho.length, sizeLine_eq]; omega) hh fun h' t k F' N' _ => ?_
  · obtain ⟨u, _, rfl⟩ := List.mem_map.mp hk
    have := u.toNat_lt
    omega
  · rw [oct_back]
    exact h h' t k F' N'
end
end
section -- ConR1
variable {w : World} {A₀ : Around} {base h₀ : Heap} {outer : List Env} {L a : Addr} {m : Str → Option Value} {news : List (Addr × Obj)} {g : Obj → List (Addr × Obj)} {s : Shared} {Q E : Value → Shared → Prop} {dp un : Nat} {gd : Option (List Code)} {cn : Str} {cs : Scope} {ccd : Value} {cl : List (Str × Addr)} {loose : List Str} {mean : ExcName → Option Value} {mg mb : Str → Option Value}
theorem next_C {x dx : Addr}
  {o : Obj} {oc : List UInt8} {at_ : Int}
  (B : Below A₀ base outer h₀) (F : Fr h₀ L s.heap m) (X : (hd.heap_1 w.params).In h₀) (T : Top topProg loose mean mg mb h₀) (hk : cs.kind = .function) (hdp : dp < 600) (hun : un < 1000)
  (N : News h₀ L s.heap news) (hx : (x, instObj 226 dx) ∈ news) (U : UpdF dx o news g) (ho : IsC w.params o oc at_)
  (ret : ∀ o' h' tk, IsC w.params o' oc at_ → Fr h₀ L h' m → News h₀ L h' (g o') → Q .none { s with heap := h', toks := tk }) :
  wpAny (model rw_on0267_01.row.prog w) (ktrTop dp un gd cn cs L a ccd cl outer) (call (.ref 97) [.ref x]) Q E s := by
  obtain ⟨num, nm, pl, hD, h0, hat, hoc⟩ := ho
  exact useS B F X T hk (Nat.lt_of_lt_of_le hdp (by decide)) N hx U hD (fun hx hU => mc_nextC (hx := hx) (hU := hU) hoc) .nil fun o' t h' tk D => ret o' h' tk ⟨num, nm, pl, D, h0, hat, hoc⟩
theorem back_R0 {x dx : Addr}
  {o : Obj} {oc : List UInt8} {at_ : Int}
  (B : Below A₀ base outer h₀) (F : Fr h₀ L s.heap m) (X : (hd.heap_1 w.params).In h₀) (T : Top topProg loose mean mg mb h₀) (hk : cs.kind = .function) (hdp : dp < 600) (hun : un < 1000)
  (N : News h₀ L s.heap news) (hx : (x, instObj 226 dx) ∈ news) (U : UpdF dx o news g) (ho : IsR w.params o oc at_ true false)
  (ret : ∀ o' h' tk, IsR w.params o' oc at_ true true → Fr h₀ L h' m → News h₀ L h' (g o') → Q .none { s with heap := h', toks := tk }) :
  wpAny (model rw_on0267_01.row.prog w) (ktrTop dp un gd cn cs L a ccd cl outer) (call (.ref 104) [.ref x]) Q E s := by
  obtain ⟨num, nm, hD, h0, hat, hoc, hib, h1⟩ := ho
  exact useS B F X T hk (Nat.lt_of_lt_of_le hdp (by decide)) N hx U hD (fun hx hU => mc_back0 (hx := hx) (hU := hU)) .nil fun o' t h' tk D => ret o' h' tk (D_isR1 D (h1 rfl) hat hoc (by rw [show at_ - (if false = true then 1 else 0) = at_ from Int.sub_zero _]; rfl) rfl)
theorem back_R1 {x dx : Addr}
  {o : Obj} {oc : List UInt8} {at_ : Int}
  (B : Below A₀ base outer h₀) (F : Fr h₀ L s.heap m) (X : (hd.heap_1 w.params).In h₀) (T : Top topProg loose mean mg mb h₀) (hk : cs.kind = .function) (hdp : dp < 600) (hun : un < 1000)
  (N : News h₀ L s.heap news) (hx : (x, instObj 226 dx) ∈ news) (U : UpdF dx o news g) (ho : IsR w.params o oc at_ true true)
  (ret : ∀ o' h' tk, IsR w.params o' oc at_ true true → Fr h₀ L h' m → News h₀ L h' (g o') → Q .none { s with heap := h', toks := tk }) :
  wpAny (model rw_on0267_01.row.prog w) (ktrTop dp un gd cn cs L a ccd cl outer) (call (.ref 104) [.ref x]) Q E s := by
  obtain ⟨num, nm, hD, h0, hat, hoc, hib, h1⟩ := ho
  exact useS B F X T hk (Nat.lt_of_lt_of_le hdp (by decide)) N hx U hD (fun hx hU => mc_back1 (hx := hx) (hU := hU)) .nil fun o' t h' tk D => ret o' h' tk ⟨num, nm, D, h0, hat, hoc, hib, h1⟩
theorem avail_R {x dx : Addr}
  {o : Obj} {oc : List UInt8} {at_ : Int} {hl ib : Bool}
  (B : Below A₀ base outer h₀) (F : Fr h₀ L s.heap m) (X : (hd.heap_1 w.params).In h₀) (T : Top topProg loose mean mg mb h₀) (hk : cs.kind = .function) (hdp : dp < 600) (hun : un < 1000)
  (N : News h₀ L s.heap news) (hx : (x, instObj 226 dx) ∈ news) (U : UpdF dx o news g) (ho : IsR w.params o oc at_ hl ib)
  (ret : ∀ o' t h' tk, IsR w.params o' oc at_ hl ib → Fr h₀ L h' m → News h₀ L h' (g o') → Q (.int (if (oc.length : Int) - (at_ - (if ib then 1 else 0)) > 0 then (oc.length : Int) - (at_ - (if ib then 1 else 0)) else -1) t) { s with heap := h', toks := tk }) :
  wpAny (model rw_on0267_01.row.prog w) (ktrTop dp un gd cn cs L a ccd cl outer) (call (.ref 209) [.ref x]) Q E s := by
  obtain ⟨num, nm, hD, h0, hat, hoc, hib, h1⟩ := ho
  cases ib with
  | true =>
    have e : (if (oc.length : Int) - (at_ - (if true = true then 1 else 0)) > 0 then (oc.length : Int) - (at_ - (if true = true then 1 else 0)) else -1) = (oc.length : Int) - at_ + (if true = true then 1 else 0) := by
      simp only [if_true]
      rw [if_pos (by omega)]; omega
    rw [e] at ret
    exact useS B F X T hk (Nat.lt_of_lt_of_le hdp (by decide)) N hx U hD (fun hx hU => mc_availP (hx := hx) (hU := hU) (by simp only [if_true]; omega) hoc) .nil fun o' t h' tk D => ret o' t h' tk ⟨num, nm, D, h0, hat, hoc, hib, h1⟩
  | false =>
    have e0 : (if false = true then (1 : Int) else 0) = 0 := rfl
    rw [e0, Int.sub_zero] at ret
    by_cases hlt : at_ < (oc.length : Int)
    · rw [if_pos (by omega)] at ret
      exact useS B F X T hk (Nat.lt_of_lt_of_le hdp (by decide)) N hx U hD (fun hx hU => mc_availP (hx := hx) (hU := hU) (by rw [e0, Int.sub_zero]; exact hlt) hoc) .nil fun o' t h' tk D => (by rw [e0, Int.add_zero]; exact ret o' t h' tk ⟨num, nm, D, h0, hat, hoc, hib, h1⟩)
    · rw [if_neg (by omega)] at ret
      exact useS B F X T hk (Nat.lt_of_lt_of_le hdp (by decide)) N hx U hD (fun hx hU => mc_availN (hx := hx) (hU := hU) (Int.not_lt.mp hlt) hoc) .nil fun o' t h' tk D => ret o' t h' tk ⟨num, nm, D, h0, hat, hoc, hib, h1⟩
theorem pos_R {x dx : Addr}
  {o : Obj} {oc : List UInt8} {at_ : Int} {hl ib : Bool}
  (B : Below A₀ base outer h₀) (F : Fr h₀ L s.heap m) (X : (hd.heap_1 w.params).In h₀) (T : Top topProg loose mean mg mb h₀) (hk : cs.kind = .function) (hdp : dp < 600) (hun : un < 1000)
  (N : News h₀ L s.heap news) (hx : (x, instObj 226 dx) ∈ news) (U : UpdF dx o news g) (ho : IsR w.params o oc at_ hl ib)
  (ret : ∀ o' t h' tk, IsR w.params o' oc at_ hl ib → Fr h₀ L h' m → News h₀ L h' (g o') → Q (.int (at_ - (if ib then 1 else 0)) t) { s with heap := h', toks := tk }) :
  wpAny (model rw_on0267_01.row.prog w) (ktrTop dp un gd cn cs L a ccd cl outer) (call (.ref 216) [.ref x]) Q E s := by
  obtain ⟨num, nm, hD, h0, hat, hoc, hib, h1⟩ := ho
  exact useS B F X T hk (Nat.lt_of_lt_of_le hdp (by decide)) N hx U hD (fun hx hU => mc_pos (hx := hx) (hU := hU)) .nil fun o' t h' tk D => ret o' t h' tk ⟨num, nm, D, h0, hat, hoc, hib, h1⟩
theorem setpos_R {x dx : Addr}
  {o : Obj} {oc : List UInt8} {at_ : Int} {hl ib : Bool} {place : Int} {tp : Tok}
  (B : Below A₀ base outer h₀) (F : Fr h₀ L s.heap m) (X : (hd.heap_1 w.params).In h₀) (T : Top topProg loose mean mg mb h₀) (hk : cs.kind = .function) (hdp : dp < 600) (hun : un < 1000)
  (N : News h₀ L s.heap news) (hx : (x, instObj 226 dx) ∈ news) (U : UpdF dx o news g) (ho : IsR w.params o oc at_ hl ib) (hp0 : 0 ≤ place) (hp1 : place ≤ oc.length)
  (ret : ∀ o' h' tk, IsR w.params o' oc place false false → Fr h₀ L h' m → News h₀ L h' (g o') → Q .none { s with heap := h', toks := tk }) :
  wpAny (model rw_on0267_01.row.prog w) (ktrTop dp un gd cn cs L a ccd cl outer) (call (.ref 223) [.ref x, .int place tp]) Q E s := by
  obtain ⟨num, nm, hD, h0, hat, hoc, hib, h1⟩ := ho
  exact useS B F X T hk (Nat.lt_of_lt_of_le hdp (by decide)) N hx U hD (fun hx hU => mc_set (hx := hx) (hU := hU) hp0 hp1 hoc) (.cons tp .nil) fun o' t h' tk D => ret o' h' tk (D_isR0 D hp0 hp1 hoc rfl)
theorem close_R {x dx : Addr}
  {o : Obj} {oc : List UInt8} {at_ : Int} {hl ib : Bool}
  (B : Below A₀ base outer h₀) (F : Fr h₀ L s.heap m) (X : (hd.heap_1 w.params).In h₀) (T : Top topProg loose mean mg mb h₀) (hk : cs.kind = .function) (hdp : dp < 600) (hun : un < 1000)
  (N : News h₀ L s.heap news) (hx : (x, instObj 226 dx) ∈ news) (U : UpdF dx o news g) (ho : IsR w.params o oc at_ hl ib)
  (ret : ∀ o' h' tk, IsC w.params o' oc at_ → Fr h₀ L h' m → News h₀ L h' (g o') → Q .none { s with heap := h', toks := tk }) :
  wpAny (model rw_on0267_01.row.prog w) (ktrTop dp un gd cn cs L a ccd cl outer) (call (.ref 153) [.ref x]) Q E s := by
  obtain ⟨num, nm, hD, h0, hat, hoc, hib, h1⟩ := ho
  exact useS B F X T hk (Nat.lt_of_lt_of_le hdp (by decide)) N hx U hD (fun hx hU => mc_close (hx := hx) (hU := hU)) .nil fun o' t h' tk D => ret o' h' tk ⟨num, nm, _, D, h0, hat, hoc⟩
theorem avail_C {x dx : Addr}
  {o : Obj} {oc : List UInt8} {at_ : Int}
  (B : Below A₀ base outer h₀) (F : Fr h₀ L s.heap m) (X : (hd.heap_1 w.params).In h₀) (T : Top topProg loose mean mg mb h₀) (hk : cs.kind = .function) (hdp : dp < 600) (hun : un < 1000)
  (N : News h₀ L s.heap news) (hx : (x, instObj 226 dx) ∈ news) (U : UpdF dx o news g) (ho : IsC w.params o oc at_)
  (ret : ∀ o' t h' tk, IsC w.params o' oc at_ → Fr h₀ L h' m → News h₀ L h' (g o') → Q (.int (-1) t) { s with heap := h', toks := tk }) :
  wpAny (model rw_on0267_01.row.prog w) (ktrTop dp un gd cn cs L a ccd cl outer) (call (.ref 209) [.ref x]) Q E s := by
  obtain ⟨num, nm, pl, hD, h0, hat, hoc⟩ := ho
  by_cases hlt : at_ < (oc.length : Int)
  · exact useS B F X T hk (Nat.lt_of_lt_of_le hdp (by decide)) N hx U hD (fun hx hU => mc_availC (hx := hx) (hU := hU) hlt hoc) .nil fun o' t h' tk D => ret o' t h' tk ⟨num, nm, pl, D, h0, hat, hoc⟩
  · exact useS B F X T hk (Nat.lt_of_lt_of_le hdp (by decide)) N hx U hD (fun hx hU => mc_availN (hx := hx) (hU := hU) (Int.not_lt.mp hlt) hoc) .nil fun o' t h' tk D => ret o' t h' tk ⟨num, nm, pl, D, h0, hat, hoc⟩
end
section -- CmpT
section
open PySem.SeqAt
variable {prog : Program} {w : World} {A : Around} {E : Value → Shared → Prop} {s : Shared} {h₀ : Heap} {L l : Addr} {m : PySem.Str → Option Value} {news : List (Addr × Obj)} {Q : Value → Shared → Prop} {x : List UInt8} {t : Tok} {vs : List Value}
noncomputable def isB (x : List UInt8) : Value → Bool
  | .bytes a _ => decide (a.toList = x)
  | _ => false
noncomputable def allB : List Value → Prop
  | [] => True
  | v :: r => (∃ (b : List UInt8) (t : Tok), v = .bytes b.toArray t) ∧ allB r
theorem allB_mem : ∀ {vs : List Value}, allB vs → ∀ v ∈ vs, ∃ (b : List UInt8) (t : Tok), v = .bytes b.toArray t
  | [], _, _, h => nomatch h
  | _ :: _, h, v, hv => by
    rcases List.mem_cons.mp hv with rfl | hv
    · exact h.1
    · exact allB_mem h.2 v hv
theorem isB_eqAt (hv : allB vs) : ∀ y, y ∈ vs.toArray → EqAt A s y (.bytes x.toArray t) (isB x y) := fun y hy => by
  obtain ⟨b, u, rfl⟩ := allB_mem hv y (by simpa using hy)
  exact eqAt_bytes b x u t
theorem in_tupB (hl : s.heap.IsTuple l vs.toArray) (hv : allB vs) (b : Bool) (hb : vs.any (isB x) = b) (h : Q (.bool b) s) : wpAny (model prog w) A (compareOp .In (.bytes x.toArray t) (.ref l)) Q E s :=
  in_tupleAt (isB x) hl (isB_eqAt hv) (by rw [List.any_toArray, hb]; exact h)
theorem notin_tupB (hl : s.heap.IsTuple l vs.toArray) (hv : allB vs) (b : Bool) (hb : vs.any (isB x) = b) (h : Q (.bool (!b)) s) : wpAny (model prog w) A (compareOp .NotIn (.bytes x.toArray t) (.ref l)) Q E s :=
  notIn_tupleAt (isB x) hl (isB_eqAt hv) (by rw [List.any_toArray, hb]; exact h)
theorem tup_K {K : Frag} (F : Fr h₀ L s.heap m) (X₀ : K.In h₀) {n : Nat} {od : Option Addr} {sl : Array (Option Value)} (hl : K.lookup l = some ⟨.type "tuple", od, .seq vs.toArray n, sl⟩) : s.heap.IsTuple l vs.toArray :=
  ⟨_, (X₀.keeps F.keep) _ _ hl, rfl, _, rfl⟩
theorem tup_N (N : News h₀ L s.heap news) (hm : (l, { cls := .type "tuple", data := .seq vs.toArray }) ∈ news) : s.heap.IsTuple l vs.toArray := ⟨_, (N _ hm).1, rfl, _, rfl⟩
end
end
section -- BTab
section
open PySem.Calls PyProof.V PySem.Spec
variable {prog : Program} {w : World} {h₀ h : Heap} {L : Addr} {m : PySem.Str → Option Value} {news : List (Addr × Obj)}
theorem made_bytes {vs : List (Value × Value)} {P : Heap → Prop} (kvs : List (List UInt8 × Value)) (F : Fr h₀ L h m) (N : News h₀ L h news) (hbig : h₀.NoLimit) (hc : Carries (bytesKind prog w) vs kvs) (hn : (kvs.map (·.1)).Nodup)
    (k : ∀ h' o, Fr h₀ L h' m → News h₀ L h' ((h.objs.size, o) :: news) → (∀ p ∈ news, p.1 < h.objs.size) → (h.objs.size == sysModules) = false → o.IsDictOf (bytesKind prog w) kvs → P h') :
    ∃ kvs, Carries (bytesKind prog w) vs kvs ∧ (h.push { cls := .type "dict", data := .dict #[] }).DictOf (bytesKind prog w) h.objs.size [] ∧
      ∀ h', h'.DictOf (bytesKind prog w) h.objs.size (merged [] kvs) → Heap.SameBut h.objs.size (h.push { cls := .type "dict", data := .dict #[] }) h' → P h' :=
  ⟨kvs, hc, Heap.DictOf.new h, fun h' hm hs => by
    rw [merged_nil_of_nodup _ hn] at hm
    obtain ⟨o, ho, hd⟩ := Heap.dictOf_iff.mp hm
    exact k h' o (F.filled hs) (N.filled F hs ho) (fun p hp => Heap.lt_size (N p hp).1) (F.notModules (modules_low hbig)) hd⟩
theorem bk_is (prog : Program) (w : World) (k : List UInt8) (t : Tok) : (bytesKind prog w).is k (.bytes k.toArray t) = true := bytesKind_is prog w k t
end
section
variable {prog : Program} {w : World} {A : Around} {E : Value → Shared → Prop} {s : Shared}
end
section
open PySem PySem.Calls
variable {prog : Program} {w : World} {A : Around} {E : Value → Shared → Prop} {s : Shared}
theorem bz_no_bytes : typeLookup (.type "int") "__bytes__" = pure none := by rw [typeLookup_type, builtinLookup_eq_fast]; kernel_rfl
theorem bz_new {t : Tok} {Q : Value → Shared → Prop} (hQ : ∀ t k, Q (.bytes #[] t) { s with toks := k }) :
    codeAny (model prog w) A (.call (.builtin "bytes.__new__") ⟨[.type "bytes", .int 0 t], []⟩) (wants Q E) s := by
  refine codeAny_of_tree ?_
  show wpAny _ A.in1 (do checkBuiltinCall "bytes.__new__" ⟨[.type "bytes", .int 0 t], []⟩; again (.builtin "bytes.__new__" ⟨[.type "bytes", .int 0 t], []⟩)) _ _ s
  refine wpAny_bind (wpAny_of_eq (F.bm_newCall _) (wpAny_pure ⟨plainId_quiet F.bm_plain _, codeAny_builtin F.bm_entry ?_⟩))
  rw [Around.under_plainId F.bm_plain _]
  have hT : s.TypeIs (.int 0 t) "int" := typeIs_int s 0 t
  unfold Builtin.«bytes.__new__»
  refine wpAny_bind (wpAny_of_eq (a := true) rfl ?_)
  refine bm_if_false rfl ?_
  refine wpAny_bind (wpAny_of_eq F.bm_sub ?_)
  refine bm_if_false rfl ?_
  refine wpAny_bind (wpAny_of_eq (F.bm_bind _) ?_)
  refine wpAny_bind (wpAny_of_eq (a := ()) rfl ?_)
  refine wpAny_bind (wpAny_of_eq (a := ()) rfl ?_)
  refine bm_if_false rfl ?_
  refine wpAny_bind (wpAny_specialOf hT bz_no_bytes ?_)
  refine wpAny_bind (wpAny_of_eq (a := false) rfl ?_)
  refine bm_if_false rfl ?_
  refine wpAny_bind (wpAny_specialOf hT F.slot_int_index.lookup ?_)
  refine bm_if_false rfl ?_
  refine wpAny_bind (wpAny_attempt (wpAny_of_eq (rfl : asIndex (.int 0 t) = pure 0) ?_))
  dsimp only
  refine bm_if_false (by decide) ?_
  rw [if_neg (by decide), if_neg (by decide), if_neg (by decide)]
  refine wpAny_bind (wpAny_rule ?_)
  refine wpAny_bind (wpAny_mkBytes ?_ (by decide))
  show wpAny _ _ (if (Value.type "bytes" == Value.type "bytes") = true then _ else _) _ _ _
  refine bm_if_true (by decide) ?_
  first
    | exact wpAny_pure (hQ _ _)
    | exact wpAny_bind (wpAny_pure (wpAny_pure (hQ _ _)))
theorem bytes_zero {t : Tok} {n : Int} {Q : Value → Shared → Prop} (hn : n = 0) (hQ : ∀ t k, Q (.bytes ([] : List UInt8).toArray t) { s with toks := k }) : wpAny (model prog w) A (call (.type "bytes") [.int n t]) Q E s := by
  subst hn
  refine callType_codes (Q₁ := fun obj s₁ => s₁.TypeIs obj "bytes" ∧ Q obj s₁) F.bm_called (F.bm_typeCall _) F.entry_object_init
    (bz_new fun t k => ⟨PySem.W.typeIs_bytes _ _ _, hQ t k⟩) fun obj s₁ h₁ => ?_
  exact ⟨h₁.1, F.args_object_init_2 obj _, object_init_meets F.bm_called.init.lookup F.bm_called.made (by decide) prog w A.in1 _ s₁ ⟨h₁.1, rfl, h₁.2⟩⟩
end
end
section -- HD
section
open PySem.W PyProof PyProof.V PySem.Calls PySem.Spec
noncomputable abbrev DS := List (List UInt8 × AV)
inductive KVs : DS → List (List UInt8 × Value) → Prop
  | nil : KVs [] []
  | cons {k : List UInt8} {a : AV} {l : DS} {kvs : List (List UInt8 × Value)} (t : Tok) (h : KVs l kvs) : KVs ((k, a) :: l) ((k, AV.v a t) :: kvs)
noncomputable def dput (k : List UInt8) (a : AV) (l : DS) : DS := if l.any (fun p => decide (p.1 = k)) then l.map (fun p => if p.1 = k then (p.1, a) else p) else l ++ [(k, a)]
noncomputable def dwo (k : List UInt8) (l : DS) : DS := l.filter fun p => decide (p.1 ≠ k)
noncomputable def dval (l : DS) (k : List UInt8) : Option AV := (l.find? fun p => p.1 = k).map (·.2)
theorem KVs.get {l : DS} {kvs : List (List UInt8 × Value)} (h : KVs l kvs) (k : List UInt8) : ∃ t, valueAt kvs k = (dval l k).map (AV.v · t) := by
  unfold valueAt dval
  induction h with
  | nil => exact ⟨default, rfl⟩
  | @cons k' a l kvs t _ ih =>
    rw [List.find?_cons, List.find?_cons]
    by_cases q : k' = k
    · rw [show decide (k' = k) = true from decide_eq_true q]; exact ⟨t, rfl⟩
    · rw [show decide (k' = k) = false from decide_eq_false q]; exact ih
theorem KVs.snoc {l : DS} {kvs : List (List UInt8 × Value)} (h : KVs l kvs) (k : List UInt8) (a : AV) (t : Tok) : KVs (l ++ [(k, a)]) (kvs ++ [(k, a.v t)]) := by
  induction h with
  | nil => exact .cons t .nil
  | cons t' _ ih => exact .cons t' ih
theorem KVs.any {l : DS} {kvs : List (List UInt8 × Value)} (h : KVs l kvs) (k : List UInt8) : kvs.any (fun p => decide (p.1 = k)) = l.any (fun p => decide (p.1 = k)) := by
  induction h with
  | nil => rfl
  | cons t' _ ih => rw [List.any_cons, List.any_cons, ih]
theorem KVs.map {l : DS} {kvs : List (List UInt8 × Value)} (h : KVs l kvs) (k : List UInt8) (a : AV) (t : Tok) : KVs (l.map (fun p => if p.1 = k then (p.1, a) else p)) (kvs.map (fun p => if p.1 = k then (p.1, a.v t) else p)) := by
  induction h with
  | nil => exact .nil
  | @cons k' b l kvs t' _ ih =>
    rw [List.map_cons, List.map_cons]
    by_cases q : k' = k
    · rw [if_pos q, if_pos q]; exact .cons t ih
    · rw [if_neg q, if_neg q]; exact .cons t' ih
theorem KVs.put {l : DS} {kvs : List (List UInt8 × Value)} (h : KVs l kvs) (k : List UInt8) (a : AV) (t : Tok) : KVs (dput k a l) (stored kvs k (a.v t)) := by
  unfold dput stored
  rw [h.any k]
  split
  · exact h.map k a t
  · exact h.snoc k a t
theorem KVs.wo {l : DS} {kvs : List (List UInt8 × Value)} (h : KVs l kvs) (k : List UInt8) : KVs (dwo k l) (without kvs k) := by
  unfold dwo without
  induction h with
  | nil => exact .nil
  | @cons k' b l kvs t' _ ih =>
    rw [List.filter_cons, List.filter_cons]
    split
    · exact .cons t' ih
    · exact ih
theorem KVs.len {l : DS} {kvs : List (List UInt8 × Value)} (h : KVs l kvs) : kvs.length = l.length := by
  induction h with
  | nil => rfl
  | cons t k ih => rw [List.length_cons, List.length_cons, ih]
noncomputable def DkB (w : World) (od : Obj) (l : DS) : Prop := ∃ kvs, KVs l kvs ∧ od.IsDictOf (bytesKind rw_on0267_01.row.prog w) kvs
structure Dsk {W : Type} {w : World} (Λ : Lg w.params W) where
  d : Addr
  lo : (d == sysModules) = false
  ds : W → DS
  putd : W → DS → W
  get : ∀ ω nw, Λ.Led ω nw → ∃ od g, DkB w od (ds ω) ∧ UpdF d od nw g ∧ ∀ od' ds', DkB w od' ds' → Λ.Led (putd ω ds') (g od')
variable {W : Type} {c : Cx W} {l l1 : FS} {ω ω1 ω2 ω3 ω4 : W} {e e1 e2 e3 e4 : Expr} {x y z : AV} {n k i j : Int} {b b1 b2 : List UInt8} {nx ny nz : Str} {pos pos1 pos2 pos3 pos4 pos5 pos6 : Pos} {v : Value} {q : Bool} {out : Out W} {rest : List Stmt}
theorem EX.dictGet (Δ : Dsk c.Λ) (p : EX c l ω e (.val (.ref Δ.d)) ω) (p1 : EX c l ω e1 (.bytes b) ω) (p2 : EX c l ω e2 y ω) (hl : (dval (Δ.ds ω) b).getD y = x) {pl : Sem Bool}
    (he : eval (.Call (.Attribute e (Str.ofString "get") pos1) [e1, e2] [] pos) c.env = (do
      let ov ← eval e c.env
      standAt pos1.atName
      let (f, first) ← holding [ov] (getMethod ov (Str.ofString "get") pl)
      callWith pos f first (backTo pos (starEach [e1, e2] c.env)) []) := by rfl)
    (ha : starEach [e1, e2] c.env = (false, eval e1 c.env) :: starEach [e2] c.env := by rfl) (hb : starEach [e2] c.env = (false, eval e2 c.env) :: starEach [] c.env := by rfl) (hp : (backTo pos (starEach [e2] c.env)).any (·.1) = false := by rfl) :
    EX c l ω (.Call (.Attribute e (Str.ofString "get") pos1) [e1, e2] [] pos) x ω := .mk fun s Q E S H =>
  MethodCall_ (p.run s _ E S fun s1 t h1 S1 => by
    refine St.elim S1 fun vs nw a led F N => ?_
    obtain ⟨od, g, ⟨kvs, hk, hd⟩, U, _⟩ := Δ.get ω nw led
    refine kdg_method N (upd_mem U) hd (callWith_method1 (args_cons (p1.run _ _ E S1 fun s2 t2 h2 S2 => args_cons (p2.run _ _ E S2 fun s3 t3 h3 S3 => args_nil ?_) hb) ha) ha hp)
    refine St.elim S3 fun vs3 nw3 a3 led3 F3 N3 => ?_
    obtain ⟨od3, g3, ⟨kvs3, hk3, hd3⟩, U3, _⟩ := Δ.get ω nw3 led3
    obtain ⟨t4, ht4⟩ := hk3.get b
    refine kdg_get2 (knd := bytesKind _ _) N3 (upd_mem U3) hd3 Δ.lo (bytesKind_is _ _ b t2) _ rfl ?_
    rw [ht4]
    subst hl
    cases hq : dval (Δ.ds ω) b with
    | none => rw [hq] at H; exact H _ t3 (((h1.trans h2).trans h3).trans ⟨rfl, rfl, rfl⟩) S3
    | some a => rw [hq] at H; exact H _ t4 (((h1.trans h2).trans h3).trans ⟨rfl, rfl, rfl⟩) S3) he
theorem EX.dsub (Δ : Dsk c.Λ) (p : EX c l ω e (.val (.ref Δ.d)) ω) (p1 : EX c l ω e1 (.bytes b) ω) (hl : dval (Δ.ds ω) b = some x)
    (hs : ∀ t, subscripted e1 false (.ref Δ.d) (.bytes b.toArray t) = operate [.ref Δ.d, .bytes b.toArray t] (getItem (.ref Δ.d) (.bytes b.toArray t)) := by intro _; with_unfolding_all rfl) : EX c l ω (.Subscript e e1 pos) x ω := .mk fun s Q E S H =>
  Subscript_ (p.run s _ E S fun s1 t1 h1 S1 => p1.run _ _ E S1 fun s2 t2 h2 S2 => by
    refine St.elim S2 fun vs nw a led F N => ?_
    obtain ⟨od, g, ⟨kvs, hk, hd⟩, U, _⟩ := Δ.get ω nw led
    obtain ⟨t4, ht4⟩ := hk.get b
    rw [hl] at ht4
    exact kba_turn (value' := Expr.Name (Str.ofString "_") ⟨0, 0, 0, 0⟩) (fun _ => rfl) (kda_item (knd := bytesKind _ _) N (upd_mem U) hd (bytesKind_is _ _ b t2) ht4 (H _ t4 ((h1.trans h2).trans ⟨rfl, rfl, rfl⟩) S2) (hs t2) (fun _ => rfl)))
theorem TX.dnotin (Δ : Dsk c.Λ) (p1 : EX c l ω e1 (.bytes b) ω) (p : EX c l ω e (.val (.ref Δ.d)) ω) (hb : behindInMarks .NotIn e = false := by rfl) : TX c l ω (.Compare e1 [.NotIn] [e] pos) (!(dval (Δ.ds ω) b).isSome) ω := .mk fun s Q E whole S H _ =>
  wpAny_isTrue_Compare1 (p1.run s _ E S fun s1 t1 h1 S1 => p.run _ _ E S1 fun s2 t2 h2 S2 => by
    refine St.elim S2 fun vs nw a led F N => ?_
    obtain ⟨od, g, ⟨kvs, hk, hd⟩, U, _⟩ := Δ.get ω nw led
    obtain ⟨t4, ht4⟩ := hk.get b
    exact kdg_notin (knd := bytesKind _ _) N (upd_mem U) hd Δ.lo (bytesKind_is _ _ b t1) (dval (Δ.ds ω) b).isSome (by rw [ht4, Option.isSome_map]) (wpAny_truthy_bool (H _ ((h1.trans h2).trans ⟨rfl, rfl, rfl⟩) S2))) hb
theorem TX.din (Δ : Dsk c.Λ) (p1 : EX c l ω e1 (.bytes b) ω) (p : EX c l ω e (.val (.ref Δ.d)) ω) (hb : behindInMarks .In e = false := by rfl) : TX c l ω (.Compare e1 [.In] [e] pos) (dval (Δ.ds ω) b).isSome ω := .mk fun s Q E whole S H _ =>
  wpAny_isTrue_Compare1 (p1.run s _ E S fun s1 t1 h1 S1 => p.run _ _ E S1 fun s2 t2 h2 S2 => by
    refine St.elim S2 fun vs nw a led F N => ?_
    obtain ⟨od, g, ⟨kvs, hk, hd⟩, U, _⟩ := Δ.get ω nw led
    obtain ⟨t4, ht4⟩ := hk.get b
    exact kda_in (knd := bytesKind _ _) N (upd_mem U) hd Δ.lo (bytesKind_is _ _ b t1) (dval (Δ.ds ω) b).isSome (by rw [ht4, Option.isSome_map]) (wpAny_truthy_bool (H _ ((h1.trans h2).trans ⟨rfl, rfl, rfl⟩) S2))) hb
theorem SX.dset (Δ : Dsk c.Λ) (p2 : EX c l ω e2 x ω1) (p : EX c l ω1 e (.val (.ref Δ.d)) ω1) (p1 : EX c l ω1 e1 (.bytes b) ω1) (r : SX c l (Δ.putd ω1 (dput b x (Δ.ds ω1))) rest out) (hz : Nat.ble (Δ.ds ω1).length 1000 = true)
    (hw : swapsWith e2 (some (.Subscript e e1 pos1)) pos.line c.env = pure false := by rfl) : SX c l ω (.Assign [.Subscript e e1 pos1] e2 pos :: rest) out := .mk fun s Q E S H =>
  wpAny_execs_cons (wpAny_Assign_Subscript (p2.run s _ E S fun s1 t1 h1 S1 => p.run _ _ E S1 fun s2 t2 h2 S2 => p1.run _ _ E S2 fun s3 t3 h3 S3 => by
    refine St.elim S3 fun vs nw a led F N => ?_
    obtain ⟨od, g, ⟨kvs, hk, hd⟩, U, hU⟩ := Δ.get ω1 nw led
    exact kda_set (knd := bytesKind _ _) F N U hd (bytesKind_is _ _ b t3) (by rw [hk.len, sizeLine_eq]; exact Nat.le_trans (Nat.le_of_ble_eq_true hz) (by decide)) fun h' o' F' N' hd' =>
      r.run _ _ E ⟨vs, _, a, hU _ _ ⟨_, hk.put b x t1, hd'⟩, F', N'⟩ (H.on (((h1.trans h2).trans h3).trans ⟨rfl, rfl, rfl⟩))) hw)
theorem EX.slj (p1 : EX c l ω e1 (.bytes b) ω) (p2 : EX c l ω e2 (.int j) ω) (hj : 0 ≤ j) (hz : b.length ≤ 16777216)
    (hs : ∀ t ad, subscripted (.Slice none (some e2) none pos1) false (.bytes b.toArray t) (.ref ad) = operate [.ref ad, .bytes b.toArray t] (getItem (.bytes b.toArray t) (.ref ad)) := by intro _ _; with_unfolding_all rfl)
    (ht : ∀ t r, letTemporaryGo e1 (.bytes b.toArray t) r = pure () := by intro _ _; with_unfolding_all rfl) : EX c l ω (.Subscript e1 (.Slice none (some e2) none pos1) pos) (.bytes (b.take j.toNat)) ω := .mk fun s Q E S H =>
  Subscript_ (p1.run s _ E S fun s1 t h1 S1 => wpAny_Slice (evalPart_none_step (evalPart_some_step (p2.run _ _ E S1 fun s2 t2 h2 S2 => evalPart_none_step (by
    refine St.elim S2 fun vs nw a led F N => ?_
    exact sl_j (s := s2) (tj := t2) F N hj hz (fun h' t' k F' N' => H _ t' ((h1.trans h2).trans ⟨rfl, rfl, rfl⟩) ⟨vs, nw, a, led, F', N'⟩) (hs t _) (ht t))))))
theorem EX.sli (p1 : EX c l ω e1 (.bytes b) ω) (p2 : EX c l ω e2 (.int i) ω) (hi : 0 ≤ i) (hz : b.length ≤ 16777216)
    (hs : ∀ t ad, subscripted (.Slice (some e2) none none pos1) false (.bytes b.toArray t) (.ref ad) = operate [.ref ad, .bytes b.toArray t] (getItem (.bytes b.toArray t) (.ref ad)) := by intro _ _; with_unfolding_all rfl)
    (ht : ∀ t r, letTemporaryGo e1 (.bytes b.toArray t) r = pure () := by intro _ _; with_unfolding_all rfl) : EX c l ω (.Subscript e1 (.Slice (some e2) none none pos1) pos) (.bytes (b.drop i.toNat)) ω := .mk fun s Q E S H =>
  Subscript_ (p1.run s _ E S fun s1 t h1 S1 => wpAny_Slice (evalPart_some_step (p2.run _ _ E S1 fun s2 t2 h2 S2 => evalPart_none_step (evalPart_none_step (by
    refine St.elim S2 fun vs nw a led F N => ?_
    exact sl_i (s := s2) (ti := t2) F N hi hz (fun h' t' k F' N' => H _ t' ((h1.trans h2).trans ⟨rfl, rfl, rfl⟩) ⟨vs, nw, a, led, F', N'⟩) (hs t _) (ht t))))))
theorem EX.max (p1 : EX c l ω e1 (.int i) ω) (p2 : EX c l ω e2 (.int j) ω) (e0 : nsIn c.K mainGlobals (Str.ofString "max") = some none := by kernel_rfl)
    (hn : Str.ofString "max" ≠ "__name__" := by decide) (hx : c.env.kindOf (Str.ofString "max") = some .globalImplicit := by rfl) (hd : (Str.ofString "max" == ("__debug__" : Str)) = false := by decide)
    (h1 : eval (.Call (.Name (Str.ofString "max") pos1) [e1, e2] [] pos) c.env = (do
        let f1 ← eval (.Name (Str.ofString "max") pos1) c.env
        callWith pos f1 [] (backTo pos (starEach [e1, e2] c.env)) (backToKw pos (keywordEach [] c.env))) := by rfl)
    (h2 : starEach [e1, e2] c.env = (false, eval e1 c.env) :: starEach [e2] c.env := by rfl) (h3 : starEach [e2] c.env = (false, eval e2 c.env) :: starEach [] c.env := by rfl) (hp : (backTo pos (starEach [e2] c.env)).any (·.1) = false := by rfl) : EX c l ω (.Call (.Name (Str.ofString "max") pos1) [e1, e2] [] pos) (.int (if j > i then j else i)) ω := .mk fun s Q E S H => by
  refine St.elim S fun vs nw a led F N => ?_
  refine Call_ (nameX_B F c.X (topRead_of c.T) e0 boot_max hn ?_ c.hk hx hd) h1
  refine PyProof.Rows.callWith_builtin1 (args_cons (p1.run _ _ E S fun s1 t g1 S1 => args_cons (p2.run _ _ E S1 fun s2 t2 g2 S2 => args_nil ?_) h3) h2) h2 hp
  refine St.elim S2 fun vs2 nw2 a2 led2 F2 N2 => ?_
  exact max_two_N rfl F2 N2 fun h' tk F' N' => H _ _ ((g1.trans g2).trans ⟨rfl, rfl, rfl⟩) ⟨vs2, nw2, a2, led2, F', N'⟩
theorem EX.bytes0 (p : EX c l ω e (.int n) ω1) (hz : n = 0) (e0 : nsIn c.K mainGlobals (Str.ofString "bytes") = some none := by kernel_rfl)
    (hn : Str.ofString "bytes" ≠ "__name__" := by decide) (hx : c.env.kindOf (Str.ofString "bytes") = some .globalImplicit := by rfl) (hd : (Str.ofString "bytes" == ("__debug__" : Str)) = false := by decide)
    (h1 : eval (.Call (.Name (Str.ofString "bytes") pos1) [e] [] pos) c.env = (do
        let f1 ← eval (.Name (Str.ofString "bytes") pos1) c.env
        callWith pos f1 [] (backTo pos (starEach [e] c.env)) (backToKw pos (keywordEach [] c.env))) := by rfl)
    (h2 : starEach [e] c.env = (false, eval e c.env) :: starEach [] c.env := by rfl) : EX c l ω (.Call (.Name (Str.ofString "bytes") pos1) [e] [] pos) (.bytes []) ω1 := .mk fun s Q E S H => by
  refine St.elim S fun vs nw a led F N => ?_
  refine Call_ (nameX_B F c.X (topRead_of c.T) e0 boot_bytes hn ?_ c.hk hx hd) h1
  exact Pv.callWith_type1 (args_cons (p.run _ _ E S fun s1 t h S1 => args_nil (bytes_zero hz fun t k => H _ t (h.trans ⟨rfl, rfl, rfl⟩) S1)) h2) h2
structure Apt (x dx d : Addr) (own : List (Addr × Obj)) : Prop where
  xdx : x ≠ dx
  xd : x ≠ d
  dxd : dx ≠ d
  off : OwnOff own [x, dx, d]
  lo : (d == sysModules) = false
noncomputable abbrev LgD (w : World) (x dx d C : Addr) (od0 : Obj) (own : List (Addr × Obj)) (ap : Apt x dx d own) : Lg w.params (FS × DS × Bool) where
  x := x
  dx := dx
  C := C
  Led := fun ω nw => ∃ o od, Dk w.params o ω.1 ∧ DkB w od ω.2.1 ∧ (ω.2.2 = false → od = od0) ∧ nw = (x, instObj C dx) :: (dx, o) :: (d, od) :: own
  fs := fun ω => ω.1
  put := fun ω fs => (fs, ω.2.1, ω.2.2)
  self := fun ω nw ⟨o, od, h, hd, hf, e⟩ => ⟨o, fun o' => (x, instObj C dx) :: (dx, o') :: (d, od) :: own, e ▸ .head _, h, e ▸ .tail ap.xdx (.head fun p hp => by
    rcases List.mem_cons.mp hp with rfl | hp
    · exact Ne.symm ap.dxd
    · exact ap.off p hp dx (.tail _ (.head _))), fun o' f' h' => ⟨o', od, h', hd, hf, rfl⟩⟩
noncomputable abbrev dskD (w : World) (x dx d C : Addr) (od0 : Obj) (own : List (Addr × Obj)) (ap : Apt x dx d own) : Dsk (LgD w x dx d C od0 own ap) where
  d := d
  lo := ap.lo
  ds := fun ω => ω.2.1
  putd := fun ω ds => (ω.1, ds, true)
  get := fun ω nw ⟨o, od, h, hd, _, e⟩ => ⟨od, fun od' => (x, instObj C dx) :: (dx, o) :: (d, od') :: own, hd, e ▸ .tail ap.xd (.tail ap.dxd (.head fun p hp => ap.off p hp d (.tail _ (.tail _ (.head _))))), fun od' ds' h' => ⟨o, od', h, h', (fun z => nomatch z), rfl⟩⟩
end
end
section -- HDM
theorem kw_4 : True := by
  w_top off
  k_with "slj" => exact EX.slj (by walk_at "ex") (by walk_at "ex") (by walk_at "sz") (by walk_at "sz")
  k_with "sli" => exact EX.sli (by walk_at "ex") (by walk_at "ex") (by walk_at "sz") (by walk_at "sz")
  k_with "exf" => first | exact EX.max (by walk_at "ex") (by walk_at "ex") | exact EX.bytes0 (by walk_at "ex") (by walk_at "sz0")
  trivial
noncomputable abbrev fsD (num : Int) (cr op : Bool) (pl : Int) (la : AV) (d : Addr) (at_ : Int) : FS :=
  [(Str.ofString "number", .int num), (Str.ofString "name", .bytes [97]), (Str.ofString "can_read", .val (.bool cr)), (Str.ofString "can_write", .val (.bool true)), (Str.ofString "is_open", .val (.bool op)),
   (Str.ofString "place", .int pl), (Str.ofString "last", la), (Str.ofString "is_back", .val (.bool false)), (Str.ofString "disk", .val (.ref d)), (Str.ofString "at", .int at_)]
noncomputable abbrev dsA (now : List UInt8) (v : Value) : DS := [([97], .bytes now), ([98], .val v)]
noncomputable abbrev sb (at_ : Int) : Int := at_ - (if false = true then 1 else 0)
theorem sb_eq (at_ : Int) : sb at_ = at_ := Int.sub_zero _
theorem cgD {P : Params} : CGet (hd.heap_1 P) 280 := ⟨by kernel_rfl, by kernel_rfl, by kernel_rfl, by kernel_rfl⟩
theorem okD_number {P : Params} : AOk (hd.heap_1 P) 280 (Str.ofString "number") := .of cgD (by kernel_rfl)
theorem okD_name {P : Params} : AOk (hd.heap_1 P) 280 (Str.ofString "name") := .of cgD (by kernel_rfl)
theorem okD_can_read {P : Params} : AOk (hd.heap_1 P) 280 (Str.ofString "can_read") := .of cgD (by kernel_rfl)
theorem okD_can_write {P : Params} : AOk (hd.heap_1 P) 280 (Str.ofString "can_write") := .of cgD (by kernel_rfl)
theorem okD_is_open {P : Params} : AOk (hd.heap_1 P) 280 (Str.ofString "is_open") := .of cgD (by kernel_rfl)
theorem okD_place {P : Params} : AOk (hd.heap_1 P) 280 (Str.ofString "place") := .of cgD (by kernel_rfl)
theorem okD_last {P : Params} : AOk (hd.heap_1 P) 280 (Str.ofString "last") := .of cgD (by kernel_rfl)
theorem okD_is_back {P : Params} : AOk (hd.heap_1 P) 280 (Str.ofString "is_back") := .of cgD (by kernel_rfl)
theorem okD_disk {P : Params} : AOk (hd.heap_1 P) 280 (Str.ofString "disk") := .of cgD (by kernel_rfl)
theorem okD_at {P : Params} : AOk (hd.heap_1 P) 280 (Str.ofString "at") := .of cgD (by kernel_rfl)
theorem mkD_check_open {P : Params} : MOk (hd.heap_1 P) 280 (Str.ofString "check_open") 111 := ⟨cgD.hg, by kernel_rfl, by kernel_rfl, by kernel_rfl⟩
theorem mkD_fetch {P : Params} : MOk (hd.heap_1 P) 280 (Str.ofString "fetch") 249 := ⟨cgD.hg, by kernel_rfl, by kernel_rfl, by kernel_rfl⟩
theorem mkD_put {P : Params} : MOk (hd.heap_1 P) 280 (Str.ofString "put") 256 := ⟨cgD.hg, by kernel_rfl, by kernel_rfl, by kernel_rfl⟩
theorem kw_5 : True := by
  k_with "aok" => with_reducible first | exact okD_number | exact okD_name | exact okD_can_read | exact okD_can_write | exact okD_is_open | exact okD_place | exact okD_last | exact okD_is_back | exact okD_disk | exact okD_at
  k_with "mok" => with_reducible first | exact mkD_close | exact mkD_check_open | exact mkD_fetch | exact mkD_put
  k_with "sz" => first | omega | ((simp only [Bool.false_eq_true, if_false, Int.sub_zero, List.length_append, List.length_take, List.length_drop, List.length_nil]); omega)
  k_with "sz0" => exact if_neg (by (simp only [Bool.false_eq_true, if_false, Int.sub_zero]); omega)
  k_with "mcs" => first | exact md_check (ap := ap) | exact md_close (ap := ap) | exact md_fetch (ap := ap) (by omega) (by omega) (by omega) | exact md_put (ap := ap) (by assumption) (by assumption) (by assumption) (by assumption)
  k_with "bi" => first | exact Bi.add | exact Bi.sub | exact Bi.addB (by walk_at "sz")
  k_with "dsk" => exact EX.dictGet (dskD w x dx d 280 od0 own ap) (by walk_at "ex") (by walk_at "ex") (by walk_at "ex") rfl
  k_with "dst" => exact SX.dset (dskD w x dx d 280 od0 own ap) (by walk_at "ex") (by walk_at "ex") (by walk_at "ex") (by walk_at "sx") (by rfl)
  trivial
section
variable {w : World} {x dx d : Addr} {own : List (Addr × Obj)} {ap : Apt x dx d own} {num pl at_ : Int} {now sm : List UInt8} {cr op : Bool} {la : AV} {n : Int} {v : Value} {od0 : Obj} {fl : Bool}
theorem md_close : MC w (LgD w x dx d 280 od0 own ap) 695 153 [] (fsD num cr op pl la d at_, dsA now v, fl) (.val .none) (fsD num cr false pl (.val .none) d at_, dsA now v, fl) := by
  walk_at "mcofN0"
theorem md_check : MC w (LgD w x dx d 280 od0 own ap) 695 111 [.val (.bool false)] (fsD num cr true pl la d at_, dsA now v, fl) (.val .none) (fsD num cr true pl la d at_, dsA now v, fl) := by
  walk_at "mcofN1"
theorem md_fetch (h0 : 0 ≤ at_) (h1 : at_ < now.length) (hz : now.length ≤ 1000) : MC w (LgD w x dx d 280 od0 own ap) 695 249 [] (fsD num cr op pl la d at_, dsA now v, fl) (.int ((now.getD (at_ + 1 - 1).toNat 0).toNat : Int)) (fsD num cr op pl la d (at_ + 1), dsA now v, fl) := by
  walk_at "mcofR0"
theorem md_pos : MC w (LgD w x dx d 280 od0 own ap) 690 270 [] (fsD num cr true pl la d at_, dsA now v, fl) (.int (sb at_)) (fsD num cr true pl la d at_, dsA now v, fl) := by
  walk_at "mcofR0"
theorem md_put (h0 : 0 ≤ at_) (h1 : at_ ≤ now.length) (hz : now.length ≤ 1000) (hs : sm.length ≤ 10) : MC w (LgD w x dx d 280 od0 own ap) 690 256 [.bytes sm] (fsD num cr op pl la d at_, dsA now v, fl) (.val .none)
    (fsD num cr op (sb at_ + sm.length) la d (sb at_ + sm.length), dsA (now.take (sb at_).toNat ++ [] ++ sm ++ now.drop (sb at_ + sm.length).toNat) v, true) := by
  walk_at "mcofN1"
theorem md_write (h0 : 0 ≤ at_) (h1 : at_ ≤ now.length) (hz : now.length ≤ 1000) (hs : sm.length ≤ 10) : MC w (LgD w x dx d 280 od0 own ap) 680 132 [.bytes sm] (fsD num cr true pl la d at_, dsA now v, fl) (.val .none)
    (fsD num cr true (sb at_ + sm.length) la d (sb at_ + sm.length), dsA (now.take (sb at_).toNat ++ [] ++ sm ++ now.drop (sb at_ + sm.length).toNat) v, true) := by
  walk_at "mcofN1"
theorem md_set (h0 : 0 ≤ n) (h1 : n ≤ now.length) (hz : now.length ≤ 1000) : MC w (LgD w x dx d 280 od0 own ap) 690 277 [.int n] (fsD num cr true pl la d at_, dsA now v, fl) (.val .none) (fsD num cr true n (.val .none) d n, dsA now v, fl) := by
  walk_at "mcofN1"
theorem md_next (h0 : 0 ≤ at_) (h1 : at_ < now.length) (hz : now.length ≤ 1000) : MC w (LgD w x dx d 280 od0 own ap) 690 97 [] (fsD num true true pl la d at_, dsA now v, fl) (.int ((now.getD (at_ + 1 - 1).toNat 0).toNat : Int)) (fsD num true true (pl + 1) (.int ((now.getD (at_ + 1 - 1).toNat 0).toNat : Int)) d (at_ + 1), dsA now v, fl) := by
  walk_at "mcofR0"
end
end
section -- HN
section
open PySem.W PyProof PyProof.V PySem.Calls PySem.Spec
variable {W : Type} {c : Cx W} {l l1 : FS} {ω ω1 ω2 ω3 ω4 : W} {e e1 e2 e3 e4 : Expr} {es : List Expr} {x y z : AV} {xs : List AV} {nx ny nz : Str} {pos pos1 pos2 pos3 pos4 pos5 pos6 : Pos} {v : Value} {q : Bool} {out : Out W} {rest : List Stmt} {f C : Addr} {N : Nat}
structure EXs (c : Cx W) (l : FS) (ω : W) (es : List Expr) (xs : List AV) (ω' : W) : Prop where
  run : ∀ (pos : Pos) (s : Shared) (Q : List Value → Shared → Prop) (E : Value → Shared → Prop), St c l ω s → (∀ s' vs, Same s s' → St c l ω' s' → ArgsV xs vs → Q vs s') → wpAny c.M c.A (spliced (backTo pos (starEach es c.env))) Q E s
theorem EXs.nil : EXs c l ω [] [] ω := .mk fun pos s Q E S H => args_nil (H s [] .rfl S .nil)
theorem EXs.cons (p : EX c l ω e x ω1) (r : EXs c l ω1 es xs ω2) (h : starEach (e :: es) c.env = (false, eval e c.env) :: starEach es c.env := by rfl) : EXs c l ω (e :: es) (x :: xs) ω2 := .mk fun pos s Q E S H =>
  args_cons (p.run s _ E S fun s1 t h1 S1 => r.run pos s1 _ E S1 fun s2 vs h2 S2 a => H s2 _ (h1.trans h2) S2 (.cons t a)) h
theorem EX.methN (hs : l.lookup ny = some (.val (.ref c.Λ.x))) (ok : MOk c.K c.Λ.C nx f) (ps : EXs c l ω (e :: es) xs ω1) (mc : MC c.w c.Λ N f xs ω1 x ω2) (hN : c.dp < N) (hn : (c.Λ.fs ω).lookup nx = none := by rfl)
    (hx : c.env.kindOf ny = some .local := by rfl) (hd : (ny == ("__debug__" : Str)) = false := by decide) {pl : Sem Bool}
    (he : eval (.Call (.Attribute (.Name ny pos2) nx pos1) (e :: es) [] pos) c.env = (do
      let ov ← eval (.Name ny pos2) c.env
      standAt pos1.atName
      let (f, first) ← holding [ov] (getMethod ov nx pl)
      callWith pos f first (backTo pos (starEach (e :: es) c.env)) []) := by rfl)
    (ha : starEach (e :: es) c.env = (false, eval e c.env) :: starEach es c.env := by rfl) (hp : (backTo pos (starEach es c.env)).any (·.1) = false := by rfl) : EX c l ω (.Call (.Attribute (.Name ny pos2) nx pos1) (e :: es) [] pos) x ω2 := .mk fun s Q E S H =>
  MethodCall_ ((EX.nm hs hx hd).run s _ E S fun s1 t h1' S1 => by
    refine St.elim S1 fun vs nw a led F Nw => ?_
    refine Lg.use led fun es' g hi hE U _ => ?_
    refine method_inst F c.X (InstAt.of_news Nw hi (upd_mem U)) ok.h1 ok.h2 ok.h3 (hE.none hn) (callWith_K c.X ok.h4 (ps.run pos s1 _ E S1 fun s2 vs2 h2' S2 av => ?_) ha hp)
    refine St.elim S2 fun vs2' nw2 a2 led2 F2 N2 => ?_
    exact ⟨c.X.keeps F2.keep, mc.run c.B c.X c.T c.hk hN F2 N2 led2 av fun s3 t3 nw3 e3 F3 N3 led3 => H s3 t3 ((h1'.trans h2').trans e3) ⟨vs2', nw3, a2, led3, F3, N3⟩⟩) he
structure NC (w : World) (N : Nat) (C : Addr) (args : List AV) : Prop where
  run : ∀ {A₀ : Around} {base h₀ : Heap} {outer : List Env} {L a : Addr} {m : Str → Option Value} {dp un : Nat} {gd : Option (List Code)} {cn : Str} {cs : Scope} {ccd : Value} {cl : List (Str × Addr)} {loose : List Str} {mean : ExcName → Option Value} {mg mb : Str → Option Value}
    {s : Shared} {Q E : Value → Shared → Prop} {nw : List (Addr × Obj)} {vs : List Value},
    Below A₀ base outer h₀ → (hd.heap_1 w.params).In h₀ → Top topProg loose mean mg mb h₀ → cs.kind = .function → dp < N → Fr h₀ L s.heap m → News h₀ L s.heap nw → ArgsV args vs →
    (∀ s' x, Same s s' → Fr h₀ L s'.heap m → News h₀ L s'.heap nw → Q (.ref x) s') →
    wpAny (model rw_on0267_01.row.prog w) (ktrTop dp un gd cn cs L a ccd cl outer) (call (.ref C) vs) Q E s
theorem make_S {w : World} {A₀ : Around} {base h₀ : Heap} {outer : List Env} {L a : Addr} {m : Str → Option Value} {dp un n : Nat} {gd : Option (List Code)} {cn : Str} {cs : Scope} {ccd : Value} {cl : List (Str × Addr)} {loose : List Str} {mean : ExcName → Option Value} {mg mb : Str → Option Value}
    {s : Shared} {Q E : Value → Shared → Prop} {nw : List (Addr × Obj)} {vs : List Value} {args : List AV} {fI : Addr} {fs : FS}
    (hm : makesIn (hd.heap_1 w.params) C = true) (hi : findIn (hd.heap_1 w.params) (.ref C) "__init__" = some (some (.ref fI))) (hf : typeIn (hd.heap_1 w.params) (.ref fI) = some (.type "function"))
    (mc : ∀ x dx g hx hU, MC w (LgS w.params x dx C g hx hU) n fI args [] (.val .none) fs)
    (B : Below A₀ base outer h₀) (X : (hd.heap_1 w.params).In h₀) (T : Top topProg loose mean mg mb h₀) (hk : cs.kind = .function) (hdp : dp + 1 < n) (F : Fr h₀ L s.heap m) (Nw : News h₀ L s.heap nw) (ha : ArgsV args vs)
    (ret : ∀ x dx o h' tk, Dk w.params o fs → Fr h₀ L h' m → News h₀ L h' ((x, instObj C dx) :: (dx, o) :: nw) → (∀ q ∈ nw, q.1 < dx) → @LT.lt Nat _ dx x → Q (.ref x) { s with heap := h', toks := tk }) :
    wpAny (model rw_on0267_01.row.prog w) (ktrTop dp un gd cn cs L a ccd cl outer) (call (.ref C) vs) Q E s := by
  refine wpAny_call (make_K F Nw (X.keeps F.keep) hm hi hf fun x dx h1 F1 N1 l1 l2 => ?_)
  have ne : x ≠ dx := Nat.ne_of_gt l2
  have hU : ∀ o', UpdF dx o' ((x, instObj C dx) :: (dx, o') :: nw) (fun o' => (x, instObj C dx) :: (dx, o') :: nw) := fun o' => .tail ne (.head fun p hp => Nat.ne_of_lt (l1 p hp))
  refine (mc x dx _ (fun _ => .head _) hU).code B X T hk hdp F1 N1 ⟨emptyDict, ⟨[], .nil, rfl⟩, rfl⟩ ha fun s' t nw' h F' N' led' => ?_
  obtain ⟨o', h', rfl⟩ := led'
  refine ⟨rfl, ?_⟩
  have e := Same.to (Same.trans (s1 := { s with heap := h1 }) ⟨rfl, rfl, rfl⟩ h)
  dsimp only
  rw [e]
  exact ret x dx o' _ _ h' F' N' l1 l2
theorem NC.of {w : World} {n N : Nat} {args : List AV} {fI : Addr} {fs : FS}
    (hm : makesIn (hd.heap_1 w.params) C = true) (hi : findIn (hd.heap_1 w.params) (.ref C) "__init__" = some (some (.ref fI))) (hf : typeIn (hd.heap_1 w.params) (.ref fI) = some (.type "function"))
    (mc : ∀ x dx g hx hU, MC w (LgS w.params x dx C g hx hU) n fI args [] (.val .none) fs) (hN : Nat.ble (N + 1) n = true) : NC w N C args :=
  .mk fun B X T hk hdp F Nw ha H => make_S hm hi hf mc B X T hk (Nat.lt_of_lt_of_le (Nat.succ_lt_succ hdp) (Nat.le_of_ble_eq_true hN)) F Nw ha fun x dx o h' tk _ F' N' _ _ => H _ x .mk' F' fun p hp => N' p (.tail _ (.tail _ hp))
theorem EX.make (hg : nsIn c.K mainGlobals nx = some (some (.ref C))) (h4 : keepIn c.K (.ref C) = true) (ps : EXs c l ω (e :: es) xs ω1) (nc : NC c.w N C xs) (hN : c.dp < N)
    (he : eval (.Call (.Name nx pos1) (e :: es) [] pos) c.env = (do
        let f1 ← eval (.Name nx pos1) c.env
        callWith pos f1 [] (backTo pos (starEach (e :: es) c.env)) (backToKw pos (keywordEach [] c.env))) := by rfl)
    (ha : starEach (e :: es) c.env = (false, eval e c.env) :: starEach es c.env := by rfl) (hp : (backTo pos (starEach es c.env)).any (·.1) = false := by rfl)
    (hx : c.env.kindOf nx = some .globalImplicit := by rfl) (hd : (nx == ("__debug__" : Str)) = false := by decide) : EX c l ω (.Call (.Name nx pos1) (e :: es) [] pos) .obj ω1 := .mk fun s Q E S H => by
  refine St.elim S fun vs nw a led F Nw => ?_
  refine Call_ (nameX_K F c.X (topRead_of c.T) hg (callWith_K c.X h4 (ps.run pos s _ E S fun s2 vs2 h2' S2 av => ?_) ha hp) c.hk hx hd) he
  refine St.elim S2 fun vs2' nw2 a2 led2 F2 N2 => ?_
  exact ⟨c.X.keeps F2.keep, nc.run c.B c.X c.T c.hk hN F2 N2 av fun s3 x3 e3 F3 N3 => H s3 x3 (h2'.trans e3) ⟨vs2', nw2, a2, led2, F3, N3⟩⟩
theorem EX.list0 : EX c l ω (.List [] pos) .obj ω := .mk fun s Q E S H => by
  refine St.elim S fun vs nw a led F Nw => ?_
  exact List_ (args_nil (newList_N F Nw (fun h' F' N' => H { s with heap := h' } _ ⟨rfl, rfl, rfl⟩ ⟨vs, nw, a, led, F', fun p hp => N' p (.tail _ hp)⟩) (by rw [sizeLine_eq]; exact Nat.le_of_ble_eq_true rfl)))
end
end
section -- HI
theorem mkR_begin {P : Params} : MOk (hd.heap_1 P) 226 (Str.ofString "begin") 76 := ⟨cgR.hg, by kernel_rfl, by kernel_rfl, by kernel_rfl⟩
theorem mkD_begin {P : Params} : MOk (hd.heap_1 P) 280 (Str.ofString "begin") 76 := ⟨cgD.hg, by kernel_rfl, by kernel_rfl, by kernel_rfl⟩
theorem cgS {P : Params} : CGet (hd.heap_1 P) 320 := ⟨by kernel_rfl, by kernel_rfl, by kernel_rfl, by kernel_rfl⟩
theorem okS_number {P : Params} : AOk (hd.heap_1 P) 320 (Str.ofString "number") := .of cgS (by kernel_rfl)
theorem okS_name {P : Params} : AOk (hd.heap_1 P) 320 (Str.ofString "name") := .of cgS (by kernel_rfl)
theorem okS_can_read {P : Params} : AOk (hd.heap_1 P) 320 (Str.ofString "can_read") := .of cgS (by kernel_rfl)
theorem okS_can_write {P : Params} : AOk (hd.heap_1 P) 320 (Str.ofString "can_write") := .of cgS (by kernel_rfl)
theorem okS_is_open {P : Params} : AOk (hd.heap_1 P) 320 (Str.ofString "is_open") := .of cgS (by kernel_rfl)
theorem okS_place {P : Params} : AOk (hd.heap_1 P) 320 (Str.ofString "place") := .of cgS (by kernel_rfl)
theorem okS_last {P : Params} : AOk (hd.heap_1 P) 320 (Str.ofString "last") := .of cgS (by kernel_rfl)
theorem okS_is_back {P : Params} : AOk (hd.heap_1 P) 320 (Str.ofString "is_back") := .of cgS (by kernel_rfl)
theorem okS_parts {P : Params} : AOk (hd.heap_1 P) 320 (Str.ofString "parts") := .of cgS (by kernel_rfl)
theorem mkS_begin {P : Params} : MOk (hd.heap_1 P) 320 (Str.ofString "begin") 76 := ⟨cgS.hg, by kernel_rfl, by kernel_rfl, by kernel_rfl⟩
theorem cgT {P : Params} : CGet (hd.heap_1 P) 400 := ⟨by kernel_rfl, by kernel_rfl, by kernel_rfl, by kernel_rfl⟩
theorem okT_disk {P : Params} : AOk (hd.heap_1 P) 400 (Str.ofString "disk") := .of cgT (by kernel_rfl)
theorem okT_many {P : Params} : AOk (hd.heap_1 P) 400 (Str.ofString "many") := .of cgT (by kernel_rfl)
theorem okT_std_in {P : Params} : AOk (hd.heap_1 P) 400 (Str.ofString "std_in") := .of cgT (by kernel_rfl)
theorem okT_std_out {P : Params} : AOk (hd.heap_1 P) 400 (Str.ofString "std_out") := .of cgT (by kernel_rfl)
theorem okT_std_err {P : Params} : AOk (hd.heap_1 P) 400 (Str.ofString "std_err") := .of cgT (by kernel_rfl)
theorem mkT_new_number {P : Params} : MOk (hd.heap_1 P) 400 (Str.ofString "new_number") 350 := ⟨cgT.hg, by kernel_rfl, by kernel_rfl, by kernel_rfl⟩
noncomputable abbrev fs8 (num : Int) (nm : List UInt8) (cr cw : Bool) : FS := [(Str.ofString "number", .int num), (Str.ofString "name", .bytes nm), (Str.ofString "can_read", .val (.bool cr)), (Str.ofString "can_write", .val (.bool cw)), (Str.ofString "is_open", .val (.bool true)), (Str.ofString "place", .int 0), (Str.ofString "last", .val .none), (Str.ofString "is_back", .val (.bool false))]
noncomputable abbrev fsT (d : Addr) (n : Int) (si so se : AV) : FS := [(Str.ofString "disk", .val (.ref d)), (Str.ofString "many", .int n), (Str.ofString "std_in", si), (Str.ofString "std_out", so), (Str.ofString "std_err", se)]
theorem kw_6 : True := by
  k_with "exs" => first | exact EXs.nil | exact EXs.cons (by walk_at "ex") (by walk_at "exs")
  k_with "mc" => exact EX.methN rfl (by walk_at "mok") (by walk_at "exs") (by walk_at "mcs") (by walk_at "dp9")
  k_with "av" => rfl
  trivial
section
variable {w : World} {x dx d : Addr} {g : Obj → List (Addr × Obj)} {num n : Int} {nm oc : List UInt8} {cr cw ap : Bool}
section
variable {hx : ∀ o', (x, instObj 226 dx) ∈ g o'} {hU : ∀ o', UpdF dx o' (g o') g}
theorem kw_7 : True := by
  k_with "mok" => with_reducible first | exact mkR_begin
  trivial
theorem mi_beginR : MC w (LgS w.params x dx 226 g hx hU) 695 76 [.int num, .bytes nm, .val (.bool cr), .val (.bool cw)] [] (.val .none) (fs8 num nm cr cw) := by
  refine' MC.of (l0 := [(Str.ofString "can_write", .val (.bool cw)), (Str.ofString "can_read", .val (.bool cr)), (Str.ofString "name", .bytes nm), (Str.ofString "number", .int num), (Str.ofString "self", .val (.ref x))]) (fun hk bs hdp9 => ?b) (.inr ⟨rfl, rfl⟩) rfl rfl rfl (fun s vs h => ?bd) rfl rfl rfl (by decide)
  case bd =>
    obtain ⟨t1, vs1, e1, h1⟩ := h.inv
    obtain ⟨t2, vs2, e2, h2⟩ := h1.inv
    obtain ⟨t3, vs3, e3, h3⟩ := h2.inv
    obtain ⟨t4, vs4, e4, h4⟩ := h3.inv
    rw [e1, e2, e3, e4, h4.inv0]
    exact ⟨[(Str.ofString "self", .ref x), (Str.ofString "number", AV.v (.int num) t1), (Str.ofString "name", AV.v (.bytes nm) t2), (Str.ofString "can_read", AV.v (.val (.bool cr)) t3), (Str.ofString "can_write", AV.v (.val (.bool cw)) t4)], BindsTo.of_eq (by kernel_rfl), .cons t4 (.cons t3 (.cons t2 (.cons t1 (.cons default .nil)))), locs rfl⟩
  case b => walk_at "sx"
theorem kw_8 : True := by
  k_with "mcs" => exact mi_beginR (hx := hx) (hU := hU)
  trivial
theorem mi_initR : MC w (LgS w.params x dx 226 g hx hU) 690 195 [.int num, .bytes nm, .bytes oc] [] (.val .none) (fsR num nm true 0 (.val .none) false oc 0) := by
  refine' MC.of (l0 := [(Str.ofString "octets", .bytes oc), (Str.ofString "name", .bytes nm), (Str.ofString "number", .int num), (Str.ofString "self", .val (.ref x))]) (fun hk bs hdp9 => ?b) (.inr ⟨rfl, rfl⟩) rfl rfl rfl (fun s vs h => ?bd) rfl rfl rfl (by decide)
  case bd =>
    obtain ⟨t1, vs1, e1, h1⟩ := h.inv
    obtain ⟨t2, vs2, e2, h2⟩ := h1.inv
    obtain ⟨t3, vs3, e3, h3⟩ := h2.inv
    rw [e1, e2, e3, h3.inv0]
    exact ⟨[(Str.ofString "self", .ref x), (Str.ofString "number", AV.v (.int num) t1), (Str.ofString "name", AV.v (.bytes nm) t2), (Str.ofString "octets", AV.v (.bytes oc) t3)], BindsTo.of_eq (by kernel_rfl), .cons t3 (.cons t2 (.cons t1 (.cons default .nil))), locs rfl⟩
  case b => walk_at "sx"
end
section
variable {hx : ∀ o', (x, instObj 320 dx) ∈ g o'} {hU : ∀ o', UpdF dx o' (g o') g}
theorem kw_9 : True := by
  k_with "aok" => with_reducible first | exact okS_number | exact okS_name | exact okS_can_read | exact okS_can_write | exact okS_is_open | exact okS_place | exact okS_last | exact okS_is_back | exact okS_parts
  k_with "mok" => with_reducible first | exact mkS_begin
  trivial
theorem mi_beginS : MC w (LgS w.params x dx 320 g hx hU) 695 76 [.int num, .bytes nm, .val (.bool cr), .val (.bool cw)] [] (.val .none) (fs8 num nm cr cw) := by
  refine' MC.of (l0 := [(Str.ofString "can_write", .val (.bool cw)), (Str.ofString "can_read", .val (.bool cr)), (Str.ofString "name", .bytes nm), (Str.ofString "number", .int num), (Str.ofString "self", .val (.ref x))]) (fun hk bs hdp9 => ?b) (.inr ⟨rfl, rfl⟩) rfl rfl rfl (fun s vs h => ?bd) rfl rfl rfl (by decide)
  case bd =>
    obtain ⟨t1, vs1, e1, h1⟩ := h.inv
    obtain ⟨t2, vs2, e2, h2⟩ := h1.inv
    obtain ⟨t3, vs3, e3, h3⟩ := h2.inv
    obtain ⟨t4, vs4, e4, h4⟩ := h3.inv
    rw [e1, e2, e3, e4, h4.inv0]
    exact ⟨[(Str.ofString "self", .ref x), (Str.ofString "number", AV.v (.int num) t1), (Str.ofString "name", AV.v (.bytes nm) t2), (Str.ofString "can_read", AV.v (.val (.bool cr)) t3), (Str.ofString "can_write", AV.v (.val (.bool cw)) t4)], BindsTo.of_eq (by kernel_rfl), .cons t4 (.cons t3 (.cons t2 (.cons t1 (.cons default .nil)))), locs rfl⟩
  case b => walk_at "sx"
theorem kw_10 : True := by
  k_with "mcs" => exact mi_beginS (hx := hx) (hU := hU)
  k_with "exl" => exact EX.list0
  trivial
theorem mi_initS : MC w (LgS w.params x dx 320 g hx hU) 690 296 [.int num, .bytes nm] [] (.val .none) (fs8 num nm false true ++ [(Str.ofString "parts", .obj)]) := by
  refine' MC.of (l0 := [(Str.ofString "name", .bytes nm), (Str.ofString "number", .int num), (Str.ofString "self", .val (.ref x))]) (fun hk bs hdp9 => ?b) (.inr ⟨rfl, rfl⟩) rfl rfl rfl (fun s vs h => ?bd) rfl rfl rfl (by decide)
  case bd =>
    obtain ⟨t1, vs1, e1, h1⟩ := h.inv
    obtain ⟨t2, vs2, e2, h2⟩ := h1.inv
    rw [e1, e2, h2.inv0]
    exact ⟨[(Str.ofString "self", .ref x), (Str.ofString "number", AV.v (.int num) t1), (Str.ofString "name", AV.v (.bytes nm) t2)], BindsTo.of_eq (by kernel_rfl), .cons t2 (.cons t1 (.cons default .nil)), locs rfl⟩
  case b => walk_at "sx"
end
theorem nc_R : NC w 600 226 [.int num, .bytes nm, .bytes oc] := .of (by kernel_rfl) (by kernel_rfl) (by kernel_rfl) (fun x dx g hx hU => mi_initR (hx := hx) (hU := hU)) rfl
theorem nc_S : NC w 600 320 [.int num, .bytes nm] := .of (by kernel_rfl) (by kernel_rfl) (by kernel_rfl) (fun x dx g hx hU => mi_initS (hx := hx) (hU := hU)) rfl
section
variable {hx : ∀ o', (x, instObj 400 dx) ∈ g o'} {hU : ∀ o', UpdF dx o' (g o') g} {tl : FS}
theorem kw_11 : True := by
  k_with "aok" => with_reducible first | exact okT_disk | exact okT_many | exact okT_std_in | exact okT_std_out | exact okT_std_err
  k_with "mok" => with_reducible first | exact mkT_new_number
  trivial
theorem mi_number (hz : Nat.ble (tl.length + 2) 1000 = true) : MC w (LgS w.params x dx 400 g hx hU) 595 350 [] ((Str.ofString "disk", .val (.ref d)) :: (Str.ofString "many", .int n) :: tl) (.int (n + 1)) ((Str.ofString "disk", .val (.ref d)) :: (Str.ofString "many", .int (n + 1)) :: tl) := by
  refine' MC.of0 (fun hk bs hdp9 => ?b) (.inl rfl) rfl rfl rfl (by intro _; kernel_rfl) rfl rfl rfl rfl (by decide)
  exact SX.aug rfl rfl (by walk_at "ex") Ip.add (by walk_at "sx") (by exact hz) (by walk_at "aok")
theorem kw_12 : True := by
  k_with "mc" => exact EX.meth0 rfl (by walk_at "mok") (mi_number (hx := hx) (hU := hU) rfl) (by walk_at "dp9")
  k_with "exf" => first | exact EX.make (C := 226) (by kernel_rfl) (by kernel_rfl) (by walk_at "exs") nc_R (by walk_at "dp9") | exact EX.make (C := 320) (by kernel_rfl) (by kernel_rfl) (by walk_at "exs") nc_S (by walk_at "dp9")
  trivial
theorem mi_initT : MC w (LgS w.params x dx 400 g hx hU) 590 343 [.val (.ref d)] [] (.val .none) (fsT d (0 + 1 + 1 + 1) .obj .obj .obj) := by
  refine' MC.of (l0 := [(Str.ofString "disk", .val (.ref d)), (Str.ofString "self", .val (.ref x))]) (fun hk bs hdp9 => ?b) (.inr ⟨rfl, rfl⟩) rfl rfl rfl (fun s vs h => ?bd) rfl rfl rfl (by decide)
  case bd =>
    obtain ⟨t1, vs1, e1, h1⟩ := h.inv
    rw [e1, h1.inv0]
    exact ⟨[(Str.ofString "self", .ref x), (Str.ofString "disk", AV.v (.val (.ref d)) t1)], BindsTo.of_eq (by kernel_rfl), .cons t1 (.cons default .nil), locs rfl⟩
  case b => walk_at "sx"
end
end
end
section -- HO
section
open PySem.W PyProof PyProof.V PySem.Calls PySem.Spec
variable {W : Type} {c : Cx W} {l l1 l0 : FS} {ω ω1 ω2 ω3 ω4 ω' : W} {e e1 e2 e3 e4 : Expr} {es : List Expr} {x y z : AV} {xs : List AV} {nx ny nz : Str} {pos pos1 pos2 pos3 pos4 pos5 pos6 : Pos} {v : Value} {q : Bool} {b : List UInt8} {rest body orelse : List Stmt} {f C : Addr} {N : Nat} {Ψ : Value → List (Addr × Obj) → Prop} {fs : FS}
theorem EX.glob (hg : nsIn c.K mainGlobals nx = some (some v)) (hx : c.env.kindOf nx = some .globalImplicit := by rfl) (hd : (nx == ("__debug__" : Str)) = false := by decide) : EX c l ω (.Name nx pos) (.val v) ω := .mk fun s Q E S H => by
  refine St.elim S fun vs nw a led F Nw => ?_
  exact nameX_K F c.X (topRead_of c.T) hg (H s default .rfl S) c.hk hx hd
theorem TX.notinT {a : Addr} {vs : List Value} (p1 : EX c l ω e1 (.bytes b) ω1) (p2 : EX c l ω1 e2 (.val (.ref a)) ω2) (hl : c.K.lookup a = some (tupObj vs.toArray)) (hv : allB vs) (hb : vs.any (isB b) = q) (hm : behindInMarks .NotIn e2 = false := by rfl) : TX c l ω (.Compare e1 [.NotIn] [e2] pos) (!q) ω2 := .mk fun s Q E whole S H _ =>
  wpAny_isTrue_Compare1 (p1.run s _ E S fun s1 t1 h1 S1 => p2.run _ _ E S1 fun s2 t2 h2 S2 => by
    refine St.elim S2 fun vs' nw a' led F Nw => ?_
    exact notin_tupB (tup_K F c.X hl) hv q hb (wpAny_truthy_bool (H s2 (h1.trans h2) S2))) hm
structure FC (w : World) (Λ : Lg w.params W) (N : Nat) (f : Addr) (args : List AV) (ω : W) (x : AV) (ω' : W) : Prop where
  run : ∀ {A₀ : Around} {base h₀ : Heap} {outer : List Env} {L a : Addr} {m : Str → Option Value} {dp un : Nat} {gd : Option (List Code)} {cn : Str} {cs : Scope} {ccd : Value} {cl : List (Str × Addr)} {loose : List Str} {mean : ExcName → Option Value} {mg mb : Str → Option Value}
    {s : Shared} {Q E : Value → Shared → Prop} {nw : List (Addr × Obj)} {vs : List Value},
    Below A₀ base outer h₀ → (hd.heap_1 w.params).In h₀ → Top topProg loose mean mg mb h₀ → cs.kind = .function → dp < N → Fr h₀ L s.heap m → News h₀ L s.heap nw → Λ.Led ω nw → ArgsV args vs →
    (∀ s' t nw', Same s s' → Fr h₀ L s'.heap m → News h₀ L s'.heap nw' → Λ.Led ω' nw' → Q (x.v t) s') →
    wpAny (model rw_on0267_01.row.prog w) (ktrTop dp un gd cn cs L a ccd cl outer) (call (.ref f) vs) Q E s
theorem FC.of1 (pn : Str) {w : World} {Λ : Lg w.params W} {a : AV} {name qual : Str} {params : Arguments} {scope : Scope} {dV kV doc pm cdv ct oc : Value} {an od : Option Addr} {osl : Array (Option Value)}
    (b : ∀ (hk : scope.kind = .function) (bs : Bs w), bs.dp < N + 1 →
      SX (Cx.of Λ qual scope f cdv hk bs) [(pn, a)] ω body (.ret x ω'))
    (ho : (hd.heap_1 w.params).lookup f = some ⟨oc, od, .func (fnOf name qual params body scope dV kV doc pm an cdv ct), osl⟩) (hcd : codeIn (hd.heap_1 w.params) cdv qual = true) (hN : Nat.ble N 900 = true)
    (hbind : ∀ u, bindArgs (fnOf name qual params body scope dV kV doc pm an cdv ct) ⟨[u], []⟩ = pure [(pn, u)]) (hl2 : decide (scope.names.lookup pn = some .local) = true)
    (hco : scope.isCoroutine = false) (hgen : scope.isGenerator = false) (hk : scope.kind = .function) (hcell : ∀ x ∈ scope.names, x.2 ≠ .cell) : FC w Λ N f [a] ω x ω' := by
  refine .mk fun {A₀ base h₀ outer L a' m dp un gd cn cs ccd cl loose mean mg mb s Q E nw vs} B X T hks hdp F Nw led hargs ret => ?_
  obtain ⟨t, rfl⟩ := hargs.inv1
  refine wpAny_call (code_def B F X Nw T rfl rfl hks ho hcd ?_ (BindsTo.of_eq (hbind _)) (fun y hy => by rw [List.mem_singleton.mp hy]; exact of_decide_eq_true hl2) (fun g' L' h1 FG F' N' B' X' T' => ?_) hco hgen hk hcell)
  · exact Nat.lt_of_lt_of_le hdp (Nat.le_trans (Nat.le_of_ble_eq_true hN) (by decide))
  · refine (b hk ⟨dp + 1, un + 3, gd, L', envX cn cs L a' ccd cl :: outer, g', _, _, loose, mean, mg, mb, B', X', T'⟩ (Nat.succ_lt_succ hdp)).run _ _ _ ?S ?P
    case S => exact ⟨_, nw, AVs.rl (.cons t .nil), led, F', N'⟩
    intro s2 t l2 h2 S2
    refine St.elim S2 fun vs2 nw2 _ led2 F2 N2 => ?_
    exact leaveK_ F2 N2 fun F3 N3 => ret s2 t nw2 (Same.trans ⟨rfl, rfl, rfl⟩ h2) F3 N3 led2
theorem EX.fun1 (hg : nsIn c.K mainGlobals nx = some (some (.ref f))) (h4 : keepIn c.K (.ref f) = true) (p : EX c l ω e x ω1) (fc : FC c.w c.Λ N f [x] ω1 y ω2) (hN : c.dp < N)
    (he : eval (.Call (.Name nx pos1) [e] [] pos) c.env = (do
        let f1 ← eval (.Name nx pos1) c.env
        callWith pos f1 [] (backTo pos (starEach [e] c.env)) (backToKw pos (keywordEach [] c.env))) := by rfl)
    (ha : starEach [e] c.env = (false, eval e c.env) :: starEach [] c.env := by rfl)
    (hx : c.env.kindOf nx = some .globalImplicit := by rfl) (hd : (nx == ("__debug__" : Str)) = false := by decide) : EX c l ω (.Call (.Name nx pos1) [e] [] pos) y ω2 := .mk fun s Q E S H => by
  refine St.elim S fun vs nw a led F Nw => ?_
  refine Call_ (nameX_K F c.X (topRead_of c.T) hg (callWith_K c.X h4 (args_cons (p.run s _ E S fun s2 t h2' S2 => args_nil ?_) ha) ha rfl) c.hk hx hd) he
  refine St.elim S2 fun vs2' nw2 a2 led2 F2 N2 => ?_
  exact ⟨c.X.keeps F2.keep, fc.run c.B c.X c.T c.hk hN F2 N2 led2 (.cons t .nil) fun s3 t3 nw3 e3 F3 N3 led3 => H s3 t3 (h2'.trans e3) ⟨vs2', nw3, a2, led3, F3, N3⟩⟩
structure SM (c : Cx W) (l : FS) (ω : W) (ss : List Stmt) (Ψ : Value → List (Addr × Obj) → Prop) : Prop where
  run : ∀ (s : Shared) (Q : Flow → Shared → Prop) (E : Value → Shared → Prop), St c l ω s → (∀ s' v m' nw', Same s s' → Fr c.g c.L s'.heap m' → News c.g c.L s'.heap nw' → Ψ v nw' → Q (.ret v) s') → wpAny c.M c.A (execs ss c.env) Q E s
theorem SM.asg (p : EX c l ω e x ω1) (r : SM c ((nx, x) :: l) ω1 rest Ψ) (hs : swapsWith e (some (Expr.Name nx pos1)) pos.line c.env = pure false := by rfl) (hx : c.env.kindOf nx = some .local := by rfl) : SM c l ω (.Assign [.Name nx pos1] e pos :: rest) Ψ := .mk fun s Q E S H =>
  wpAny_execs_cons (wpAny_Assign_Name (p.run s _ E S fun s1 t h1 S1 => st_store t S1 (fun s2 h2 S2 => r.run _ _ E S2 fun s3 v m' nw' h3 => H s3 v m' nw' ((h1.trans h2).trans h3)) hx) hs)
theorem SM.ifF (p : TX c l ω e false ω1) (r : SM c l ω1 rest Ψ) : SM c l ω (.If e body [] pos :: rest) Ψ := .mk fun s Q E S H =>
  wpAny_execs_cons (wpAny_If (p.run s _ E _ S (fun s1 h1 S1 => by rw [if_neg (by decide)]; exact wpAny_execs_nil (r.run _ _ E S1 fun s3 v m' nw' h3 => H s3 v m' nw' (h1.trans h3))) rfl))
theorem SM.ifT (p : TX c l ω e true ω1) (b : SX c l ω1 body (.next l1 ω2)) (r : SM c l1 ω2 rest Ψ) : SM c l ω (.If e body orelse pos :: rest) Ψ := .mk fun s Q E S H =>
  wpAny_execs_cons (wpAny_If (p.run s _ E _ S (fun s1 h1 S1 => by rw [if_pos rfl]; exact b.run _ _ E S1 fun s2 h2 S2 => r.run _ _ E S2 fun s3 v m' nw' h3 => H s3 v m' nw' ((h1.trans h2).trans h3)) rfl))
theorem SM.ifM (p : TX c l ω e true ω1) (b : SM c l ω1 body Ψ) : SM c l ω (.If e body orelse pos :: rest) Ψ := .mk fun s Q E S H =>
  wpAny_execs_cons (wpAny_If (p.run s _ E _ S (fun s1 h1 S1 => by rw [if_pos rfl]; exact b.run _ _ E S1 fun s3 v m' nw' h3 => H s3 v m' nw' (h1.trans h3)) rfl))
noncomputable def New (w : World) (Λ : Lg w.params W) (C : Addr) (fs : FS) (ω : W) (v : Value) (nw' : List (Addr × Obj)) : Prop := ∃ x dx o nw, v = .ref x ∧ nw' = (x, instObj C dx) :: (dx, o) :: nw ∧ Dk w.params o fs ∧ Λ.Led ω nw ∧ (∀ q ∈ nw, q.1 < dx) ∧ @LT.lt Nat _ dx x
structure MK (w : World) (Λ : Lg w.params W) (N : Nat) (C : Addr) (args : List AV) (ω : W) (fs : FS) : Prop where
  run : ∀ {A₀ : Around} {base h₀ : Heap} {outer : List Env} {L a : Addr} {m : Str → Option Value} {dp un : Nat} {gd : Option (List Code)} {cn : Str} {cs : Scope} {ccd : Value} {cl : List (Str × Addr)} {loose : List Str} {mean : ExcName → Option Value} {mg mb : Str → Option Value}
    {s : Shared} {Q E : Value → Shared → Prop} {nw : List (Addr × Obj)} {vs : List Value},
    Below A₀ base outer h₀ → (hd.heap_1 w.params).In h₀ → Top topProg loose mean mg mb h₀ → cs.kind = .function → dp < N → Fr h₀ L s.heap m → News h₀ L s.heap nw → Λ.Led ω nw → ArgsV args vs →
    (∀ s' v nw', Same s s' → Fr h₀ L s'.heap m → News h₀ L s'.heap nw' → New w Λ C fs ω v nw' → Q v s') →
    wpAny (model rw_on0267_01.row.prog w) (ktrTop dp un gd cn cs L a ccd cl outer) (call (.ref C) vs) Q E s
theorem MK.ofS {w : World} {Λ : Lg w.params W} {n : Nat} {args : List AV} {fI : Addr}
    (hm : makesIn (hd.heap_1 w.params) C = true) (hi : findIn (hd.heap_1 w.params) (.ref C) "__init__" = some (some (.ref fI))) (hf : typeIn (hd.heap_1 w.params) (.ref fI) = some (.type "function"))
    (mc : ∀ x dx g hx hU, MC w (LgS w.params x dx C g hx hU) n fI args [] (.val .none) fs) (hN : Nat.ble (N + 1) n = true) : MK w Λ N C args ω fs :=
  .mk fun B X T hk hdp F Nw led ha H => make_S hm hi hf mc B X T hk (Nat.lt_of_lt_of_le (Nat.succ_lt_succ hdp) (Nat.le_of_ble_eq_true hN)) F Nw ha fun x dx o h' tk D F' N' l1 l2 => H _ _ _ .mk' F' N' ⟨x, dx, o, _, rfl, rfl, D, led, l1, l2⟩
theorem SM.retMk (hg : nsIn c.K mainGlobals nx = some (some (.ref C))) (h4 : keepIn c.K (.ref C) = true) (ps : EXs c l ω (e :: es) xs ω1) (mk : MK c.w c.Λ N C xs ω1 fs) (hN : c.dp < N)
    (he : eval (.Call (.Name nx pos1) (e :: es) [] pos) c.env = (do
        let f1 ← eval (.Name nx pos1) c.env
        callWith pos f1 [] (backTo pos (starEach (e :: es) c.env)) (backToKw pos (keywordEach [] c.env))) := by rfl)
    (ha : starEach (e :: es) c.env = (false, eval e c.env) :: starEach es c.env := by rfl) (hp : (backTo pos (starEach es c.env)).any (·.1) = false := by rfl)
    (hx : c.env.kindOf nx = some .globalImplicit := by rfl) (hd : (nx == ("__debug__" : Str)) = false := by decide) : SM c l ω (.Return (some (.Call (.Name nx pos1) (e :: es) [] pos)) pos2 :: rest) (New c.w c.Λ C fs ω1) := .mk fun s Q E S H => by
  refine St.elim S fun vs nw a led F Nw => ?_
  refine wpAny_execs_cons (wpAny_Return_some (Call_ (nameX_K F c.X (topRead_of c.T) hg (callWith_K c.X h4 (ps.run pos s _ E S fun s2 vs2 h2' S2 av => ?_) ha hp) c.hk hx hd) he))
  refine St.elim S2 fun vs2' nw2 a2 led2 F2 N2 => ?_
  exact ⟨c.X.keeps F2.keep, mk.run c.B c.X c.T c.hk hN F2 N2 led2 av fun s3 v nw3 e3 F3 N3 n => H s3 v _ nw3 (h2'.trans e3) F3 N3 n⟩
structure MM (w : World) (Λ : Lg w.params W) (N : Nat) (f : Addr) (args : List AV) (ω : W) (Ψ : Value → List (Addr × Obj) → Prop) : Prop where
  run : ∀ {A₀ : Around} {base h₀ : Heap} {outer : List Env} {L a : Addr} {m : Str → Option Value} {dp un : Nat} {gd : Option (List Code)} {cn : Str} {cs : Scope} {ccd : Value} {cl : List (Str × Addr)} {loose : List Str} {mean : ExcName → Option Value} {mg mb : Str → Option Value}
    {s : Shared} {Q E : Value → Shared → Prop} {nw : List (Addr × Obj)} {vs : List Value},
    Below A₀ base outer h₀ → (hd.heap_1 w.params).In h₀ → Top topProg loose mean mg mb h₀ → cs.kind = .function → dp < N → Fr h₀ L s.heap m → News h₀ L s.heap nw → Λ.Led ω nw → ArgsV args vs →
    (∀ s' v nw', Same s s' → Fr h₀ L s'.heap m → News h₀ L s'.heap nw' → Ψ v nw' → Q v s') →
    wpAny (model rw_on0267_01.row.prog w) (ktrTop dp un gd cn cs L a ccd cl outer) (call (.ref f) (.ref Λ.x :: vs)) Q E s
theorem MM.of2 (pn pm' : Str) {w : World} {Λ : Lg w.params W} {a1 a2 : AV} {name qual : Str} {params : Arguments} {scope : Scope} {dV kV doc pm cdv ct oc : Value} {an od : Option Addr} {osl : Array (Option Value)}
    (b : ∀ (hk : scope.kind = .function) (bs : Bs w), bs.dp < N + 1 →
      SM (Cx.of Λ qual scope f cdv hk bs) [(pm', a2), (pn, a1), (Str.ofString "self", .val (.ref Λ.x))] ω body Ψ)
    (ho : (hd.heap_1 w.params).lookup f = some ⟨oc, od, .func (fnOf name qual params body scope dV kV doc pm an cdv ct), osl⟩) (hcd : codeIn (hd.heap_1 w.params) cdv qual = true) (hN : Nat.ble N 900 = true)
    (hbind : ∀ v u u', bindArgs (fnOf name qual params body scope dV kV doc pm an cdv ct) ⟨[v, u, u'], []⟩ = pure [(Str.ofString "self", v), (pn, u), (pm', u')]) (hl : ([(Str.ofString "self"), pn, pm'].all fun y => decide (scope.names.lookup y = some .local)) = true)
    (hco : scope.isCoroutine = false) (hgen : scope.isGenerator = false) (hk : scope.kind = .function) (hcell : ∀ x ∈ scope.names, x.2 ≠ .cell) : MM w Λ N f [a1, a2] ω Ψ := by
  refine .mk fun {A₀ base h₀ outer L a' m dp un gd cn cs ccd cl loose mean mg mb s Q E nw vs} B X T hks hdp F Nw led hargs ret => ?_
  obtain ⟨t1, vs1, rfl, h1⟩ := hargs.inv
  obtain ⟨t2, rfl⟩ := h1.inv1
  refine wpAny_call (code_def B F X Nw T rfl rfl hks ho hcd ?_ (BindsTo.of_eq (hbind _ _ _)) (fun y hy => ?_) (fun g' L' h1 FG F' N' B' X' T' => ?_) hco hgen hk hcell)
  · exact Nat.lt_of_lt_of_le hdp (Nat.le_trans (Nat.le_of_ble_eq_true hN) (by decide))
  · have h := List.all_eq_true.mp hl
    rcases List.mem_cons.mp hy with rfl | hy
    · exact of_decide_eq_true (h _ (.head _))
    · rcases List.mem_cons.mp hy with rfl | hy
      · exact of_decide_eq_true (h _ (.tail _ (.head _)))
      · rw [List.mem_singleton.mp hy]; exact of_decide_eq_true (h _ (.tail _ (.tail _ (.head _))))
  · refine (b hk ⟨dp + 1, un + 3, gd, L', envX cn cs L a' ccd cl :: outer, g', _, _, loose, mean, mg, mb, B', X', T'⟩ (Nat.succ_lt_succ hdp)).run _ _ _ ?S ?P
    case S => exact ⟨_, nw, AVs.rl (vs := [(pm', a2.v t2), (pn, a1.v t1), (Str.ofString "self", .ref Λ.x)]) (.cons t2 (.cons t1 (.cons default .nil))), led, F', N'⟩
    intro s2 v m2 nw2 h2 F2 N2 ψ
    exact leaveK_ F2 N2 fun F3 N3 => ret s2 v nw2 (Same.trans ⟨rfl, rfl, rfl⟩ h2) F3 N3 ψ
theorem EX.cmp {cop : CmpOp} (p1 : EX c l ω e1 x ω1) (p2 : EX c l ω1 e2 y ω2) (r : Cm c.M c.A cop x y q) (hb : behindInMarks cop e2 = false := by rfl) : EX c l ω (.Compare e1 [cop] [e2] pos) (.val (.bool q)) ω2 := .mk fun s Q E S H =>
  wpAny_Compare1 (p1.run s _ E S fun s1 t h1 S1 => p2.run _ _ E S1 fun s2 t' h2 S2 => r.run _ Q E t t' (H s2 default (h1.trans h2) S2)) hb
theorem EX.cmpIs {cop : CmpOp} {q1 : Bool} (p1 : EX c l ω e1 x ω1) (p2 : EX c l ω1 e2 y ω2) (r : Cm c.M c.A cop x y q) (h : q = q1) (hb : behindInMarks cop e2 = false := by rfl) : EX c l ω (.Compare e1 [cop] [e2] pos) (.val (.bool q1)) ω2 := h ▸ EX.cmp p1 p2 r hb
end
end
section -- HZ
section
open PySem.W PyProof PyProof.V PySem.Calls PySem.Spec
variable {W : Type}
noncomputable def Rd (c : Cx W) (msg : List UInt8) (ω : W) (e : Addr) (s : Shared) : Prop :=
  (∃ m t de hsh k n tk nw, Fr c.g c.L s.heap m ∧ News c.g c.L s.heap ((e, excO de t .none) :: (de, toldD hsh k n msg.toArray tk) :: nw) ∧ Apart e ((de, toldD hsh k n msg.toArray tk) :: nw) ∧ c.Λ.Led ω nw) ∨
  (∃ G m de hsh k n tk nw, Fr c.g c.L G m ∧ RaisedE c.base G (c.env :: c.outer) e de ((de, toldD hsh k n msg.toArray tk) :: nw) s.heap ∧ G.UpToSlots s.heap ∧ c.Λ.Led ω nw)
structure RX (c : Cx W) (l : FS) (ω : W) (ss : List Stmt) (msg : List UInt8) (ω' : W) : Prop where
  run : ∀ (s : Shared) (Q : Flow → Shared → Prop) (E : Value → Shared → Prop), PassesOwn c.M c.A c.env E → St c l ω s → (∀ s' e, Same s s' → Rd c msg ω' e s' → E (.ref e) s') → wpAny c.M c.A (execs ss c.env) Q E s
structure ER (c : Cx W) (l : FS) (ω : W) (e : Expr) (msg : List UInt8) (ω' : W) : Prop where
  run : ∀ (s : Shared) (Q E : Value → Shared → Prop), St c l ω s → (∀ s' e, Same s s' → Rd c msg ω' e s' → E (.ref e) s') → wpAny c.M c.A (eval e c.env) Q E s
structure RC (w : World) (Λ : Lg w.params W) (N : Nat) (f : Addr) (args : List AV) (ω : W) (msg : List UInt8) (ω' : W) : Prop where
  code : ∀ {A₀ : Around} {base h₀ : Heap} {outer : List Env} {L a : Addr} {m : Str → Option Value} {dp un : Nat} {gd : Option (List Code)} {cn : Str} {cs : Scope} {ccd : Value} {cl : List (Str × Addr)} {loose : List Str} {mean : ExcName → Option Value} {mg mb : Str → Option Value}
    {s : Shared} {R : Result → Shared → Prop} {nw : List (Addr × Obj)} {vs : List Value},
    Below A₀ base outer h₀ → (hd.heap_1 w.params).In h₀ → Top topProg loose mean mg mb h₀ → cs.kind = .function → dp < N → Fr h₀ L s.heap m → News h₀ L s.heap nw → Λ.Led ω nw → ArgsV args vs →
    (∀ s' G e de hsh k n tk nw', Same s s' → Fr h₀ L G m → RaisedE base G (envX cn cs L a ccd cl :: outer) e de ((de, toldD hsh k n msg.toArray tk) :: nw') s'.heap → G.UpToSlots s'.heap → Λ.Led ω' nw' → R (.error (.ref e)) s') →
    codeAny (model rw_on0267_01.row.prog w) (ktrTop dp un gd cn cs L a ccd cl outer) (.call (.ref f) ⟨.ref Λ.x :: vs, []⟩) R s
theorem RC.of {w : World} {Λ : Lg w.params W} {N : Nat} {f : Addr} {args : List AV} {ω ω' : W} {msg : List UInt8} {l0 : FS} {name qual : Str} {params : Arguments} {body : List Stmt} {scope : Scope} {dV kV doc pm cdv ct oc : Value} {an od : Option Addr} {osl : Array (Option Value)}
    (b : ∀ (hk : scope.kind = .function) (bs : Bs w), bs.dp < N + 1 →
      RX (Cx.of Λ qual scope f cdv hk bs) l0 ω body msg ω')
    (ho : (hd.heap_1 w.params).lookup f = some ⟨oc, od, .func (fnOf name qual params body scope dV kV doc pm an cdv ct), osl⟩) (hcd : codeIn (hd.heap_1 w.params) cdv qual = true) (hN : Nat.ble N 900 = true)
    (hbind : ∀ s vs, ArgsV args vs → ∃ lv, BindsTo s (fnOf name qual params body scope dV kV doc pm an cdv ct) ⟨.ref Λ.x :: vs, []⟩ lv ∧ AVs l0 lv.reverse ∧ ∀ y ∈ lv, scope.names.lookup y.1 = some .local)
    (hco : scope.isCoroutine = false) (hgen : scope.isGenerator = false) (hk : scope.kind = .function) (hcell : ∀ x ∈ scope.names, x.2 ≠ .cell) : RC w Λ N f args ω msg ω' := by
  refine .mk fun {A₀ base h₀ outer L a m dp un gd cn cs ccd cl loose mean mg mb s R nw vs} B X T hks hdp F Nw led hargs ret => ?_
  obtain ⟨lv, hb, hA, hl⟩ := hbind s vs hargs
  refine code_def B F X Nw T rfl rfl hks ho hcd ?_ hb hl (fun g' L' h1 FG F' N' B' X' T' => ?_) hco hgen hk hcell
  · exact Nat.lt_of_lt_of_le hdp (Nat.le_trans (Nat.le_of_ble_eq_true hN) (by decide))
  · refine (b hk ⟨dp + 1, un + 3, gd, L', envX cn cs L a ccd cl :: outer, g', _, _, loose, mean, mg, mb, B', X', T'⟩ (Nat.succ_lt_succ hdp)).run _ _ _ ?hE ?S ?P
    case hE => first | passes_own | with_unfolding_all passes_own
    case S => exact ⟨_, nw, hA.rl, led, F', N'⟩
    intro s2 e h2 r
    rcases r with ⟨m2, t, de, hsh, k, n, tk, nw2, F2, N2, ap, led2⟩ | ⟨G, m2, de, hsh, k, n, tk, nw2, F2, R2, U2, led2⟩
    · exact leave_newE B' F2 N2 ap (fun h' R' U' => ret _ g' e de hsh k n tk nw2 (Same.trans (s1 := s2) (Same.trans ⟨rfl, rfl, rfl⟩ h2) ⟨rfl, rfl, rfl⟩) FG R' U' led2) rfl hk
    · exact leave_onE B' F2 R2 U2 (fun h' R' U' => ret _ g' e de hsh k n tk nw2 (Same.trans (s1 := s2) (Same.trans ⟨rfl, rfl, rfl⟩ h2) ⟨rfl, rfl, rfl⟩) FG R' U' led2) rfl
theorem RC.of1 (pn : Str) {w : World} {Λ : Lg w.params W} {N : Nat} {f : Addr} {a : AV} {ω ω' : W} {msg : List UInt8} {name qual : Str} {params : Arguments} {body : List Stmt} {scope : Scope} {dV kV doc pm cdv ct oc : Value} {an od : Option Addr} {osl : Array (Option Value)}
    (b : ∀ (hk : scope.kind = .function) (bs : Bs w), bs.dp < N + 1 →
      RX (Cx.of Λ qual scope f cdv hk bs) [(pn, a), (Str.ofString "self", .val (.ref Λ.x))] ω body msg ω')
    (ho : (hd.heap_1 w.params).lookup f = some ⟨oc, od, .func (fnOf name qual params body scope dV kV doc pm an cdv ct), osl⟩) (hcd : codeIn (hd.heap_1 w.params) cdv qual = true) (hN : Nat.ble N 900 = true)
    (hbind : ∀ v u, bindArgs (fnOf name qual params body scope dV kV doc pm an cdv ct) ⟨[v, u], []⟩ = pure [(Str.ofString "self", v), (pn, u)]) (hl : decide (scope.names.lookup (Str.ofString "self") = some .local) = true) (hl2 : decide (scope.names.lookup pn = some .local) = true)
    (hco : scope.isCoroutine = false) (hgen : scope.isGenerator = false) (hk : scope.kind = .function) (hcell : ∀ x ∈ scope.names, x.2 ≠ .cell) : RC w Λ N f [a] ω msg ω' :=
  RC.of b ho hcd hN (fun s vs h => by
    obtain ⟨t, rfl⟩ := h.inv1
    refine ⟨[(Str.ofString "self", .ref Λ.x), (pn, a.v t)], BindsTo.of_eq (hbind _ _), .cons t (.cons default .nil), fun y hy => ?_⟩
    rcases List.mem_cons.mp hy with rfl | hy
    · exact of_decide_eq_true hl
    · rw [List.mem_singleton.mp hy]; exact of_decide_eq_true hl2) hco hgen hk hcell
variable {c : Cx W} {l l1 : FS} {ω ω1 ω2 ω3 : W} {e e1 e2 : Expr} {es : List Expr} {x : AV} {xs : List AV} {nx ny : Str} {pos pos1 pos2 pos3 : Pos} {b msg : List UInt8} {rest body orelse : List Stmt} {f : Addr} {N : Nat}
theorem RX.raise (hg : nsIn c.K mainGlobals nx = some (some (.ref 52))) (h4 : keepIn c.K (.ref 52) = true) (p : EX c l ω e (.bytes msg) ω1) (hN : c.dp < 700)
    (he : eval (.Call (.Name nx pos1) [e] [] pos) c.env = (do
        let f1 ← eval (.Name nx pos1) c.env
        callWith pos f1 [] (backTo pos (starEach [e] c.env)) (backToKw pos (keywordEach [] c.env))) := by rfl)
    (ha : starEach [e] c.env = (false, eval e c.env) :: starEach [] c.env := by rfl)
    (hx : c.env.kindOf nx = some .globalImplicit := by rfl) (hd : (nx == ("__debug__" : Str)) = false := by decide) : RX c l ω (.Raise (some (.Call (.Name nx pos1) [e] [] pos)) none pos3 :: rest) msg ω1 := .mk fun s Q E hE S H => by
  refine wpAny_execs_cons (raise_52 rfl ?_)
  refine St.elim S fun vs nw a led F Nw => ?_
  refine Call_ (nameX_K F c.X (topRead_of c.T) hg (callWith_K c.X h4 (args_cons (p.run s _ E S fun s2 t h2' S2 => args_nil ?_) ha) ha rfl) c.hk hx hd) he
  refine St.elim S2 fun vs2' nw2 a2 led2 F2 N2 => ?_
  refine ⟨c.X.keeps F2.keep, mk_psK c.B c.T rfl rfl c.hk F2 N2 c.X (Nat.le_of_lt hN) fun e de t' hsh k n h' tk' F3 N3 ap nd X3 => ⟨e, de, t', rfl, (N3 _ (.head _)).1, X3, H _ e (h2'.trans ⟨rfl, rfl, rfl⟩) (.inl ⟨_, t', de, hsh, k, n, _, nw2, F3, N3, ap, led2⟩)⟩⟩
theorem RX.ifT (p : TX c l ω e true ω1) (r : RX c l ω1 body msg ω2) : RX c l ω (.If e body orelse pos :: rest) msg ω2 := .mk fun s Q E hE S H =>
  wpAny_execs_cons (wpAny_If (p.run s _ E _ S (fun s1 h1 S1 => by rw [if_pos rfl]; exact r.run _ _ E hE S1 fun s3 e h3 => H s3 e (h1.trans h3)) rfl))
theorem RX.ifF (p : TX c l ω e false ω1) (r : RX c l ω1 rest msg ω2) : RX c l ω (.If e body [] pos :: rest) msg ω2 := .mk fun s Q E hE S H =>
  wpAny_execs_cons (wpAny_If (p.run s _ E _ S (fun s1 h1 S1 => by rw [if_neg (by decide)]; exact wpAny_execs_nil (r.run _ _ E hE S1 fun s3 e h3 => H s3 e (h1.trans h3))) rfl))
theorem RX.asg (p : EX c l ω e x ω1) (r : RX c ((nx, x) :: l) ω1 rest msg ω2) (hs : swapsWith e (some (Expr.Name nx pos1)) pos.line c.env = pure false := by rfl) (hx : c.env.kindOf nx = some .local := by rfl) : RX c l ω (.Assign [.Name nx pos1] e pos :: rest) msg ω2 := .mk fun s Q E hE S H =>
  wpAny_execs_cons (wpAny_Assign_Name (p.run s _ E S fun s1 t h1 S1 => st_store t S1 (fun s2 h2 S2 => r.run _ _ E hE S2 fun s3 e h3 => H s3 e ((h1.trans h2).trans h3)) hx) hs)
theorem RX.exp (p : EX c l ω e x ω1) (r : RX c l ω1 rest msg ω2) (hi : interactive c.env = false := by rfl) (hs : swapsWith e none pos.line c.env = pure false := by rfl) : RX c l ω (.Expr e pos :: rest) msg ω2 := .mk fun s Q E hE S H =>
  wpAny_execs_cons (wpAny_Expr_any (p.run s _ E S fun s1 t h1 S1 => r.run _ _ E hE S1 fun s3 e h3 => H s3 e (h1.trans h3)) hi hs)
theorem RX.expR (p : ER c l ω e msg ω1) (hi : interactive c.env = false := by rfl) (hs : swapsWith e none pos.line c.env = pure false := by rfl) : RX c l ω (.Expr e pos :: rest) msg ω1 := .mk fun s Q E hE S H =>
  wpAny_execs_cons (wpAny_Expr_any (p.run s _ E S H) hi hs)
theorem ER.methN (hs : l.lookup ny = some (.val (.ref c.Λ.x))) (ok : MOk c.K c.Λ.C nx f) (ps : EXs c l ω (e :: es) xs ω1) (mc : RC c.w c.Λ N f xs ω1 msg ω2) (hN : c.dp < N) (hn : (c.Λ.fs ω).lookup nx = none := by rfl)
    (hx : c.env.kindOf ny = some .local := by rfl) (hd : (ny == ("__debug__" : Str)) = false := by decide) {pl : Sem Bool}
    (he : eval (.Call (.Attribute (.Name ny pos2) nx pos1) (e :: es) [] pos) c.env = (do
      let ov ← eval (.Name ny pos2) c.env
      standAt pos1.atName
      let (f, first) ← holding [ov] (getMethod ov nx pl)
      callWith pos f first (backTo pos (starEach (e :: es) c.env)) []) := by rfl)
    (ha : starEach (e :: es) c.env = (false, eval e c.env) :: starEach es c.env := by rfl) (hp : (backTo pos (starEach es c.env)).any (·.1) = false := by rfl) : ER c l ω (.Call (.Attribute (.Name ny pos2) nx pos1) (e :: es) [] pos) msg ω2 := .mk fun s Q E S H =>
  MethodCall_ ((EX.nm hs hx hd).run s _ E S fun s1 t h1' S1 => by
    refine St.elim S1 fun vs nw a led F Nw => ?_
    refine Lg.use led fun es' g hi hE U _ => ?_
    refine method_inst F c.X (InstAt.of_news Nw hi (upd_mem U)) ok.h1 ok.h2 ok.h3 (hE.none hn) (callWith_K c.X ok.h4 (ps.run pos s1 _ E S1 fun s2 vs2 h2' S2 av => ?_) ha hp)
    refine St.elim S2 fun vs2' nw2 a2 led2 F2 N2 => ?_
    exact ⟨c.X.keeps F2.keep, wpAny_call (mc.code c.B c.X c.T c.hk hN F2 N2 led2 av fun s3 G e de hsh k n tk nw3 h3 FG R3 U3 led3 => H s3 e ((h1'.trans h2').trans h3) (.inr ⟨G, _, de, hsh, k, n, tk, nw3, FG, R3, U3, led3⟩))⟩) he
end
end
section -- SortB
inductive BsAre : List Value → List (List UInt8) → Prop
  | nil : BsAre [] []
  | cons (x : List UInt8) (t : Tok) {vs : List Value} {bs : List (List UInt8)} (h : BsAre vs bs) : BsAre (.bytes x.toArray t :: vs) (x :: bs)
namespace BsAre
theorem length {vs : List Value} {bs : List (List UInt8)} (h : BsAre vs bs) : vs.length = bs.length := by
  induction h with
  | nil => rfl
  | cons x t _ ih => simp [ih]
theorem all {vs : List Value} {bs : List (List UInt8)} (h : BsAre vs bs) : ∀ v ∈ vs, ∃ (x : List UInt8) (t : Tok), v = .bytes x.toArray t := by
  induction h with
  | nil => exact fun v hv => nomatch hv
  | cons x t _ ih =>
    intro v hv
    rcases List.mem_cons.mp hv with rfl | hv
    · exact ⟨x, t, rfl⟩
    · exact ih v hv
theorem atI {vs : List Value} {bs : List (List UInt8)} (h : BsAre vs bs) : ∀ {i : Nat} {v : Value}, vs[i]? = some v → ∃ x t, v = .bytes (List.toArray x) t ∧ bs[i]? = some x := by
  induction h with
  | nil => intro i v e; simp at e
  | cons x t _ ih =>
    intro i v e
    cases i with
    | zero => simp only [List.getElem?_cons_zero, Option.some.injEq] at e; exact ⟨x, t, e.symm, rfl⟩
    | succ i => simpa using ih (by simpa using e)
end BsAre
noncomputable def bsOf : Value → List UInt8
  | .bytes a _ => a.toList
  | _ => []
theorem bsAre_map : ∀ (vs : List Value), (∀ v ∈ vs, ∃ (x : List UInt8) (t : Tok), v = .bytes x.toArray t) → BsAre vs (vs.map bsOf)
  | [], _ => .nil
  | v :: vs, h => by
    obtain ⟨x, t, rfl⟩ := h v (.head _)
    exact .cons x t (bsAre_map vs fun u hu => h u (.tail _ hu))
theorem BsAre.bs {vs : List Value} {bs : List (List UInt8)} (h : BsAre vs bs) : vs.map bsOf = bs := by
  induction h with
  | nil => rfl
  | cons x t _ ih => rw [List.map_cons, ih]; rfl
noncomputable abbrev octs (x : List UInt8) : List Nat := x.map UInt8.toNat
@[reducible] noncomputable def bytesSK : PyProof.Rows.KeyKind where
  α := List Nat
  blt a b := decide (a < b)
  irrefl a := by simpa using List.lt_irrefl a
  trans a b c h1 h2 := by simp only [decide_eq_true_eq] at *; exact List.lt_trans h1 h2
  negTrans a b c h := by
    simp only [decide_eq_true_eq] at *
    by_cases hab : a < b
    · exact .inl hab
    · exact .inr (List.lt_of_le_of_lt (List.not_lt.mp hab) h)
  total a b h1 h2 := by simp only [decide_eq_false_iff_not] at *; exact List.le_antisymm (List.not_lt.mp h2) (List.not_lt.mp h1)
  keyOf v := match v with | .bytes x _ => some (octs x.toList) | _ => none
  dflt := []
theorem slot_bytes_lt : Slot "bytes" (cmpInfo .Lt).2.1 "bytes.__lt__" :=
  .of (owner := "bytes") (n := "__lt__") (by rw [typeLookup_type, builtinLookup_eq_fast]; kernel_rfl) (by decide +kernel) (by decide +kernel) (by decide +kernel)
    (by first | exact .inl (by decide +kernel) | exact .inr (by decide +kernel)) (by rw [isSubtype_type]; kernel_rfl)
theorem entry_bytes_lt : entryFor table "bytes.__lt__" = some Builtin.«bytes.__lt__» := entryFor_of_tree (by kernel_rfl)
theorem args_bytes_lt (a b : Value) : argsOk "bytes.__lt__" ⟨[a, b], []⟩ := by
  unfold argsOk; rw [signature?_of (id := "bytes.__lt__") (n := ['_', '_', 't', 'l', '_', '_']) (o := ['s', 'e', 't', 'y', 'b']) (by kernel_rfl) FB.owner_bytes]; kernel_rfl
open PySem.Builtin in
theorem order_lt : ∀ a b : List UInt8, (Bytes.order a b == .lt) = decide (octs a < octs b)
  | [], [] => by simp [Bytes.order, octs]
  | [], y :: b => by simp [Bytes.order, octs]
  | x :: a, [] => by simp [Bytes.order, octs]
  | x :: a, y :: b => by
    have ih := order_lt a b
    simp only [Bytes.order, octs, List.map_cons]
    by_cases h1 : x < y
    · have h2 : x.toNat < y.toNat := h1
      rw [if_pos h1]
      have h3 : (x.toNat :: a.map UInt8.toNat) < (y.toNat :: b.map UInt8.toNat) := List.cons_lt_cons_iff.mpr (.inl h2)
      rw [decide_eq_true h3]
      rfl
    · by_cases h2 : x > y
      · have h3 : y.toNat < x.toNat := h2
        have h4 : ¬ x.toNat < y.toNat := by omega
        have h5 : x.toNat ≠ y.toNat := by omega
        rw [if_neg h1, if_pos h2]
        have h6 : ¬ (x.toNat :: a.map UInt8.toNat) < (y.toNat :: b.map UInt8.toNat) := fun h => by
          rcases List.cons_lt_cons_iff.mp h with h | h
          · exact h4 h
          · exact h5 h.1
        rw [decide_eq_false h6]
        rfl
      · have e : x = y := UInt8.le_antisymm (UInt8.not_lt.mp h2) (UInt8.not_lt.mp h1)
        subst e
        rw [if_neg h1, if_neg h2, ih]
        simp
section
variable {prog : Program} {w : World} {A : Around} {E : Value → Shared → Prop} {s : Shared}
open PySem.Builtin in
theorem call_bytes_lt {a b : List UInt8} {t u : Tok} {Q : Value → Shared → Prop} (h : Q (.bool (decide (octs a < octs b))) s) :
    wpAny (model prog w) A (call (.builtin "bytes.__lt__") [.bytes a.toArray t, .bytes b.toArray u]) Q E s := by
  refine wpAny_call_entry slot_bytes_lt (typeIs_bytes s a.toArray t) entry_bytes_lt ?_ (args_bytes_lt _ _)
  show wpAny _ _ (isInstance (.bytes b.toArray u) (.type "bytes") >>= fun r => _) _ _ s
  refine wpAny_bind (wpAny_isInstance (typeIs_bytes s _ u) F.sub_bytes_bytes ?_)
  exact wpAny_pure ⟨_, rfl, by rw [← order_lt] at h; exact h⟩
theorem oneLt_bytes {a b : List UInt8} {t u : Tok} {Q : Bool → Shared → Prop} (h : Q (decide (octs a < octs b)) s) : wpAny (model prog w) A (oneLt' true (.bytes a.toArray t) (.bytes b.toArray u)) Q E s := by
  rw [oneLt'_eq]
  simp only [if_true]
  refine wpAny_bind (wpAny_cRoomFor_byValue rfl ?_)
  refine wpAny_bind (wpAny_callSpecialIfBound?_slot (typeIs_bytes s a.toArray t) slot_bytes_lt (call_bytes_lt ?_))
  exact wpAny_truthy_bool h
end
theorem bytesSK_oneLt : bytesSK.OneLt := by
  intro prog w A E s x y a b Q ha hb h
  cases x <;> simp only [bytesSK, reduceCtorEq, Option.some.injEq] at ha
  cases y <;> simp only [bytesSK, reduceCtorEq, Option.some.injEq] at hb
  cases ha; cases hb
  exact oneLt_bytes h
theorem BsAre.keysOf {vs : List Value} {bs : List (List UInt8)} (h : BsAre vs bs) : KeysOf bytesSK (pairsOf vs) := by
  intro p hp
  rw [pairsOf_toList] at hp
  obtain ⟨x, t, e⟩ := h.all _ (mem_zip_self hp).2
  exact ⟨octs x, by rw [e]⟩
theorem KK_bytes {xs : Array Keyed} {i : Nat} (hi : i < xs.size) {x : List UInt8} {t : Tok} {q : Value} (hx : xs[i] = (.bytes x.toArray t, q)) : KK bytesSK xs i = octs x := by
  unfold KK; rw [getElem?_pos xs i hi, hx]; rfl
theorem mapM_first_bs {vs : List Value} {bs : List (List UInt8)} (h : BsAre vs bs) : vs.mapM firstOfTuple' = pure (vs.map fun _ => none) := by
  induction h with
  | nil => simp
  | cons x t _ ih => rw [List.mapM_cons, show firstOfTuple' (.bytes x.toArray t) = pure none from rfl, ih]; simp
theorem mapM_typeOf_bs {vs : List Value} {bs : List (List UInt8)} (h : BsAre vs bs) : vs.mapM typeOf = pure (vs.map fun _ => Value.type "bytes") := by
  induction h with
  | nil => simp
  | cons x t _ ih =>
    rw [List.mapM_cons, ih]
    show (pure (Value.type "bytes") >>= fun b => pure _ >>= fun bs => pure (b :: bs)) = _
    simp
theorem keyKind_bs {v₁ v₂ : Value} {vs : List Value} {bs : List (List UInt8)} (h : BsAre (v₁ :: v₂ :: vs) bs) : keyKind' (v₁ :: v₂ :: vs).toArray = pure oneType' := by
  rw [keyKind'_eq, List.mapM_toArray, mapM_first_bs h]
  simp only [map_pure, pure_bind]
  rw [if_neg (by simp), if_neg (by simp)]
  rw [oneTypeOnly'_eq, List.mapM_toArray, mapM_typeOf_bs h]
  simp only [map_pure, pure_bind]
  have hall : ((List.map (fun _ => Value.type "bytes") (v₁ :: v₂ :: vs)).toArray.all fun x => x == Value.type "bytes") = true := by
    simp only [List.all_toArray, List.all_map, List.all_eq_true]
    intro _ _
    rfl
  have h0 : (List.map (fun _ => Value.type "bytes") (v₁ :: v₂ :: vs)).toArray[0]? = some (Value.type "bytes") := by simp
  rw [h0]
  simp only [hall, if_true, pure_bind, Option.isSome_some]
noncomputable def Asc (l : List (List UInt8)) : Prop := l.Pairwise fun a b => ¬ (octs b < octs a)
theorem sorted_out_bs {vs : List Value} {bs : List (List UInt8)} (hS : BsAre vs bs) {xs : Array Keyed} (hp : xs.Perm (pairsOf vs)) (hs : SortedToK bytesSK xs (pairsOf vs).size) :
    ∃ bs', BsAre (xs.map (·.2)).toList bs' ∧ bs'.Perm bs ∧ Asc bs' := by
  have hl : xs.toList.Perm (vs.zip vs) := by rw [← pairsOf_toList]; exact Array.perm_iff_toList_perm.mp hp
  have hmem : ∀ p, p ∈ xs.toList → p.1 = p.2 ∧ p.1 ∈ vs := fun p hp' => mem_zip_self (hl.mem_iff.mp hp')
  refine ⟨xs.toList.map (fun p => bsOf p.1), ?_, ?_, ?_⟩
  · have e : (xs.map (·.2)).toList = xs.toList.map (·.1) := by
      rw [Array.toList_map]; exact List.map_congr_left fun p hp' => (hmem p hp').1.symm
    rw [e]
    have h1 := bsAre_map (xs.toList.map (·.1)) (by
      intro v hv
      obtain ⟨p, hp', rfl⟩ := List.mem_map.mp hv
      exact hS.all _ (hmem p hp').2)
    rwa [List.map_map] at h1
  · have h1 := hl.map (fun p => bsOf p.1)
    have e2 : (vs.zip vs).map (fun p => bsOf p.1) = bs := by
      have : (vs.zip vs).map (fun p => bsOf p.1) = ((vs.zip vs).map Prod.fst).map bsOf := by rw [List.map_map]; rfl
      rw [this, List.map_fst_zip (Nat.le_refl _), hS.bs]
    rwa [e2] at h1
  · unfold Asc
    rw [List.pairwise_iff_getElem]
    intro i j hi hj hij
    have hi' : i < xs.size := by simpa using hi
    have hj' : j < xs.size := by simpa using hj
    have h1 := hs i j (Nat.le_of_lt hij) (by rw [← hp.size_eq]; exact hj')
    obtain ⟨x, t, ex⟩ := hS.all _ (hmem xs[i] (by simp)).2
    obtain ⟨y, u, ey⟩ := hS.all _ (hmem xs[j] (by simp)).2
    rw [KK_bytes hi' (x := x) (t := t) (q := xs[i].2) (Prod.ext ex rfl), KK_bytes hj' (x := y) (t := u) (q := xs[j].2) (Prod.ext ey rfl)] at h1
    change decide (octs y < octs x) = false at h1
    simp only [List.getElem_map, Array.getElem_toList]
    rw [show bsOf xs[i].1 = x by rw [ex]; rfl, show bsOf xs[j].1 = y by rw [ey]; rfl]
    exact of_decide_eq_false h1
theorem octs_inj {a b : List UInt8} (h : octs a = octs b) : a = b := by
  induction a generalizing b with
  | nil => cases b with
    | nil => rfl
    | cons y b => simp [octs] at h
  | cons x a ih => cases b with
    | nil => simp [octs] at h
    | cons y b =>
      simp only [octs, List.map_cons, List.cons.injEq] at h
      rw [ih h.2, UInt8.toNat_inj.mp h.1]
theorem asc_uniq : ∀ {a b : List (List UInt8)}, a.Perm b → Asc a → Asc b → a = b
  | [], b, p, _, _ => (List.nil_perm.mp p).symm
  | x :: a, [], p, _, _ => absurd p.length_eq (by simp)
  | x :: a, y :: b, p, ha, hb => by
    have e : x = y := by
      rcases List.mem_cons.mp (p.mem_iff.mp (List.mem_cons_self ..)) with e | h
      · exact e
      · rcases List.mem_cons.mp (p.mem_iff.mpr (List.mem_cons_self ..)) with e | h'
        · exact e.symm
        · have h1 := (List.pairwise_cons.mp hb).1 x h
          have h2 := (List.pairwise_cons.mp ha).1 y h'
          exact octs_inj (List.le_antisymm (List.not_lt.mp h2) (List.not_lt.mp h1))
    subst e
    rw [asc_uniq (List.Perm.cons_inv p) (List.pairwise_cons.mp ha).2 (List.pairwise_cons.mp hb).2]
section
variable {prog : Program} {w : World} {A : Around} {E : Value → Shared → Prop} {s : Shared} {h₀ : Heap} {L l : Addr} {m : PySem.Str → Option Value} {news : List (Addr × Obj)} {vs : List Value} {bs : List (List UInt8)} {Q : Value → Shared → Prop}
theorem sorted_B (F : Fr h₀ L s.heap m) (N : News h₀ L s.heap news) (hl : s.heap.IsList l vs.toArray) (hS : BsAre vs bs) (h64 : bs.length < 64)
    (h : ∀ D vs' bs' c h', Fr h₀ L h' m → News h₀ L h' ((D, PySem.W.listOf vs'.toArray c) :: news) → (∀ q ∈ news, q.1 < D) → BsAre vs' bs' → bs'.Perm bs → Asc bs' → Q (.ref D) { s with heap := h' }) :
    wpAny (model prog w) A (call (.builtin "sorted") [.ref l]) Q E s := by
  refine sortedK bytesSK_oneLt hl hS.keysOf (fun v₁ v₂ rest e => keyKind_bs (by rw [← e]; exact hS)) (by rw [hS.length]; exact h64) fun st' hp hs => ?_
  obtain ⟨bs', h1, h2, h3⟩ := sorted_out_bs hS hp hs
  obtain ⟨e, he⟩ := sortedAll_at s.heap vs ((arrOf st').map (·.2))
  exact h _ ((arrOf st').map (·.2)).toList bs' e _ (F.kept fun _ _ => sortedAll_old) (N.kept_cons F (fun _ _ => sortedAll_old) (Nat.le_succ _) he) (fun p hp => Nat.lt_succ_of_lt (Heap.lt_size (N p hp).1)) h1 h2 h3
end
end
section -- DictP
section
open PySem PySem.Calls PySem.Spec
variable {prog : Program} {w : World} {A : Around} {E : Value → Shared → Prop} {s : Shared}
theorem miss_list_keys : typeLookup (.type "list") (Str.ofString "keys") = pure none := by rw [typeLookup_type, builtinLookup_eq_fast]; kernel_rfl
theorem keys_miss_list {a : Addr} {o : Obj} {xs : Array Value} {k : Nat} {Q : Option Value → Shared → Prop}
    (hx : s.heap.get? a = some o) (hc : o.cls = .type "list") (hdat : o.data = .seq xs k) (hd : o.dict = none) (hA : A.handled = none)
    (h : ∀ h' tk, (∀ b o, s.heap.get? b = some o → h'.get? b = some o) → Q none { s with heap := h', toks := tk }) :
    wpAny (model prog w) A (getAttr? (.ref a) (Str.ofString "keys")) Q E s := by
  obtain ⟨c, dct, dat, sl⟩ := o
  simp only at hc hdat hd
  subst hc hdat hd
  obtain ⟨hp, g, d, tk, os⟩ := s
  have hT : ∀ tk', (⟨hp, g, d, tk', os⟩ : Shared).TypeIs (.ref a) "list" := fun _ => ⟨_, hx, rfl⟩
  have f1 := sub_AttributeError
  have f3 := F.slot_list_getattribute.lookup
  have f4 := F.slot_list_getattribute.bind (.ref a)
  have f5 := am_list_getattr_none
  unfold getAttr? getAttrBy? getAttrBy
  repeat (any_goals (first | assumption | exact hT _ | ((with_reducible show wpAny _ _ (call (Value.builtin "list.__getattribute__") _ _) _ _ _); refine call_meets F.slot_list_getattribute (hT _) am_entry_list_getattribute (F.args_list_getattribute_2 _ _) (meets_getattribute_miss_list a xs k sl (Str.ofString "keys") _ miss_list_keys (by decide +kernel) (by decide +kernel)) ⟨hx, hA, fun h' tk' e hx' => ?_⟩) | wp_step))
  have hk := hx'.of.keeps
  obtain ⟨t', u', he⟩ := hx'.there
  show wpAny _ _ (getattributeRaised _ _ _ _ _ _ _) _ _ _
  unfold getattributeRaised
  repeat (any_goals (first | assumption | wp_step))
  exact h _ _ hk
theorem entry_dict_update_loop : entryFor table "dict.update.loop" = some Builtin.«dict.update.loop» := entryFor_of_tree (by kernel_rfl)
theorem plain_dict_update_loop : plainId "dict.update.loop" = true := by decide +kernel
section
variable {K : Type} [DecidableEq K] {knd : PySem.KeyKind prog w K}
inductive PairsAt (knd : PySem.KeyKind prog w K) (h : Heap) : List Value → List (K × Value) → Prop
  | nil : PairsAt knd h [] []
  | cons {a : Addr} {k : K} {v key : Value} {vs : List Value} {kvs : List (K × Value)} (ht : h.IsTuple a #[key, v]) (hk : knd.is k key = true) (r : PairsAt knd h vs kvs) : PairsAt knd h (.ref a :: vs) ((k, v) :: kvs)
theorem PairsAt.length {h : Heap} {vs : List Value} {kvs : List (K × Value)} (p : PairsAt knd h vs kvs) : vs.length = kvs.length := by
  induction p with
  | nil => rfl
  | cons _ _ _ ih => simp [ih]
theorem PairsAt.pick {h : Heap} {vs : List Value} {kvs : List (K × Value)} (p : PairsAt knd h vs kvs) : ∀ {i : Nat} {x : Value}, vs[i]? = some x → ∃ a key kv, x = .ref a ∧ h.IsTuple a #[key, kv.2] ∧ knd.is kv.1 key = true ∧ kvs[i]? = some kv := by
  induction p with
  | nil => intro i x e; simp at e
  | cons ht hk _ ih =>
    intro i x e
    cases i with
    | zero => simp only [List.getElem?_cons_zero, Option.some.injEq] at e; exact ⟨_, _, _, e.symm, ht, hk, rfl⟩
    | succ i => simpa using ih (by simpa using e)
theorem PairsAt.mono {h h' : Heap} {vs : List Value} {kvs : List (K × Value)} (p : PairsAt knd h vs kvs) (hk : ∀ a xs, h.IsTuple a xs → h'.IsTuple a xs) : PairsAt knd h' vs kvs := by
  induction p with
  | nil => exact .nil
  | cons ht hk' _ ih => exact .cons (hk _ _ ht) hk' ih
theorem tuple_same {h h' : Heap} {b : Addr} (hs : Heap.SameBut b h h') {T : String} (hb : ∃ o, h.get? b = some o ∧ o.cls = .type T) (hT : T ≠ "tuple") {a : Addr} {xs : Array Value} (t : h.IsTuple a xs) : h'.IsTuple a xs := by
  obtain ⟨o, ho, hc, n, hd⟩ := t
  refine ⟨o, ?_, hc, n, hd⟩
  rw [hs.2 a ?_]
  · exact ho
  · intro e
    obtain ⟨o', ho', hc'⟩ := hb
    rw [e] at ho
    rw [ho] at ho'
    cases ho'
    rw [hc] at hc'
    injection hc' with hc'
    exact hT hc'.symm
theorem update_loop {R : Result → Shared → Prop} {d I l : Addr} {vs : List Value} {kvs : List (K × Value)} (hh : A.handled = none) (hz : kvs.length ≤ 1000) (hdI : d ≠ I) (hdl : d ≠ l) (hlI : l ≠ I) :
    ∀ (j i : Nat) (s : Shared), vs.length - i = j → i ≤ vs.length → s.heap.IsListIter I l i → s.heap.IsList l vs.toArray → PairsAt knd s.heap vs kvs → s.heap.DictOf knd d (merged [] (kvs.take i)) →
      (∀ h' tk, h'.DictOf knd d (merged [] kvs) → (∀ b o, b ≠ d → b ≠ I → s.heap.get? b = some o → h'.get? b = some o) → R (.ok (.ret .none)) { s with heap := h', toks := tk }) →
      codeAny (model prog w) A (.builtin "dict.update.loop" ⟨[.ref d, .ref I, rawInt (i : Int), .none], []⟩) R s := by
  intro j
  induction j with
  | zero =>
    intro i s hj hi hit hl hp hd hR
    have hin : i = vs.length := by omega
    refine codeAny_builtin entry_dict_update_loop ?_
    rw [Around.under_plainId plain_dict_update_loop _]
    show wpAny _ A.in1 (pyNext (.ref I) >>= _) _ _ s
    refine wpAny_bind (wpAny_pyNext_list_end hh hit hl (by simp [hin]) fun h' he => ?_)
    show wpAny _ A.in1 (Builtin.Dict.addKeywords d [] >>= fun _ => ret Value.none) _ _ _
    refine wpAny_bind (wpAny_pure (wpAny_pure (hR h' _ ?_ fun b o hb hb' e => ?_)))
    · have hd' := hd.extBut he hdI
      have e : kvs.take i = kvs := List.take_of_length_le (by rw [← hp.length]; omega)
      rw [e] at hd'
      exact hd'
    · exact he b o hb' e
  | succ j ih =>
    intro i s hj hi hit hl hp hd hR
    have hlt : i < vs.length := by omega
    obtain ⟨a, key, kv, ex, ht, hk, ekv⟩ := hp.pick (List.getElem?_eq_getElem hlt)
    refine codeAny_builtin entry_dict_update_loop ?_
    rw [Around.under_plainId plain_dict_update_loop _]
    show wpAny _ A.in1 (pyNext (.ref I) >>= _) _ _ s
    refine wpAny_bind (wpAny_pyNext_list_item (x := .ref a) hit hl (by rw [← ex]; simp [hlt]) fun h' hit' hs => ?_)
    show wpAny _ A.in1 (holding [Value.ref a] _ >>= _) _ _ _
    refine wpAny_bind (wpAny_holding ?_)
    refine wpAny_bind (wpAny_tryCatch ?_)
    have itI : ∃ o, s.heap.get? I = some o ∧ o.cls = .type "list_iterator" := by obtain ⟨o, ho, hc, _⟩ := hit; exact ⟨o, ho, hc⟩
    have ht' : h'.IsTuple a #[key, kv.2] := tuple_same hs itI (by decide) ht
    have hd' : h'.DictOf knd d (merged [] (kvs.take i)) := by obtain ⟨o, es, ep, ho, r⟩ := hd; exact ⟨o, es, ep, (hs.2 d hdI).trans ho, r⟩
    obtain ⟨ot, hot, hct, nt, hdt⟩ := id ht'
    unfold Builtin.Dict.pairItems
    refine wpAny_bind (wpAny_typeOf (T := "tuple") ⟨ot, hot, hct⟩ ?_)
    rw [if_pos (by decide)]
    refine wpAny_bind ?_
    unfold seqItems?
    refine wpAny_bind (wpAny_load hot ?_)
    rw [hdt]
    refine wpAny_pure (wpAny_pure ?_)
    show wpAny _ A.in1 (holding [key, kv.2] (dictSet d key kv.2)) _ _ _
    have hz' : (merged [] (kvs.take i)).length ≤ sizeLine := by
      have e1 := merged_length_le [] (kvs.take i)
      have e2 : (kvs.take i).length ≤ kvs.length := by rw [List.length_take]; omega
      rw [sizeLine_eq]
      simp only [List.length_nil] at e1
      omega
    refine wpAny_holding (wpAny_dictSet_pairs (hsz := hz') hk hd' fun h'' hd'' hs'' => ?_)
    have dD : ∃ o, h'.get? d = some o ∧ o.cls = .type "dict" := by obtain ⟨o, es, ep, ho, hc, r⟩ := hd'; exact ⟨o, ho, hc.1⟩
    have hlI' : h'.IsList l vs.toArray := by obtain ⟨o, ho, r⟩ := hl; exact ⟨o, (hs.2 l hlI).trans ho, r⟩
    have hl'' : h''.IsList l vs.toArray := by obtain ⟨o, ho, r⟩ := hlI'; exact ⟨o, (hs''.2 l (Ne.symm hdl)).trans ho, r⟩
    have hit'' : h''.IsListIter I l (i + 1) := by obtain ⟨o, ho, r⟩ := hit'; exact ⟨o, (hs''.2 I (Ne.symm hdI)).trans ho, r⟩
    refine wpAny_pure ⟨plainId_quiet plain_dict_update_loop _, ?_⟩
    have e1 : merged [] (kvs.take (i + 1)) = stored (merged [] (kvs.take i)) kv.1 kv.2 := merged_take_succ [] kvs i kv ekv
    refine ih (i + 1) _ (by omega) (by omega) hit'' hl'' ((hp.mono fun a xs t => tuple_same hs itI (by decide) t).mono fun a xs t => tuple_same hs'' dD (by decide) t) (by rw [e1]; exact hd'') fun h3 tk3 hd3 hk3 => ?_
    refine hR h3 tk3 hd3 fun b o hb hb' e => hk3 b o hb hb' ?_
    exact (hs''.2 b hb).trans ((hs.2 b hb').trans e)
theorem dict_of_pairs {l : Addr} {vs : List Value} {kvs : List (K × Value)} {Q : Value → Shared → Prop} (hh : A.handled = none) {o : Obj} {n : Nat} (hx : s.heap.get? l = some o) (hc : o.cls = .type "list") (hdat : o.data = .seq vs.toArray n) (hd : o.dict = none)
    (hp : PairsAt knd s.heap vs kvs) (hz : kvs.length ≤ 1000)
    (h : ∀ h' tk, h'.DictOf knd s.heap.objs.size (merged [] kvs) → (∀ b o, s.heap.get? b = some o → h'.get? b = some o) → Q (.ref s.heap.objs.size) { s with heap := h', toks := tk }) :
    wpAny (model prog w) A (call (.type "dict") [.ref l]) Q E s := by
  refine callType_codes (Q₁ := fun obj s₁ => obj = .ref s.heap.objs.size ∧ s₁ = { s with heap := s.heap.push { cls := .type "dict", data := .dict #[] } }) F.kt_called_dict (F.kt_typeCall_dict_1 _) F.entry_dict_init (kt_code_dict_new _ ⟨rfl, rfl⟩) ?_
  rintro obj s₁ ⟨rfl, rfl⟩
  have hnew : (s.heap.push { cls := .type "dict", data := .dict #[] }).DictOf knd s.heap.objs.size [] := Heap.DictOf.new s.heap
  have hx' := Heap.get?_push_of_some (h := s.heap) { cls := .type "dict", data := .dict #[] } hx
  have hdl : s.heap.objs.size ≠ l := fun e => absurd (Heap.lt_size hx) (by rw [e]; exact Nat.lt_irrefl _)
  have hT : (Shared.mk (s.heap.push { cls := .type "dict", data := .dict #[] }) s.gens s.drawn s.toks s.os).TypeIs (.ref l) "list" := ⟨o, hx', hc⟩
  refine ⟨hnew.typeIs, F.args_dict_init_2 _ _, ?_⟩
  unfold Builtin.«dict.__init__»
  refine wpAny_bind ?_
  unfold Builtin.Dict.selfAndRest
  refine wpAny_bind (wpAny_notOrdered_dict hnew.typeIs ?_)
  show wpAny _ _ (pure (s.heap.objs.size, [Value.ref l])) _ _ _
  refine wpAny_pure ?_
  show wpAny _ _ (Builtin.Dict.updateFrom "dict.__init__" s.heap.objs.size (.ref l) [] .none) _ _ _
  unfold Builtin.Dict.updateFrom
  refine wpAny_bind (wpAny_typeOf hT ?_)
  rw [if_pos (by decide)]
  refine wpAny_bind ?_
  refine keys_miss_list hx' hc hdat hd hh fun h1 tk1 hk1 => ?_
  rw [if_pos (show (none : Option Value).isNone = true from rfl)]
  refine wpAny_bind (wpAny_rule ?_)
  have hl1 : h1.IsList l vs.toArray := ⟨o, hk1 _ _ hx', hc, n, hdat⟩
  have hd1 : h1.DictOf knd s.heap.objs.size [] := by obtain ⟨o, es, ep, ho, r⟩ := hnew; exact ⟨o, es, ep, hk1 _ _ ho, r⟩
  refine wpAny_bind (wpAny_pyIter_list hl1 ?_)
  have lt1 : s.heap.objs.size < h1.objs.size := by obtain ⟨o, es, ep, ho, r⟩ := hd1; exact Heap.lt_size ho
  refine wpAny_pure ⟨plainId_quiet plain_dict_update_loop _, ?_⟩
  have hh1 : A.in1.handled = none := hh
  refine update_loop (A := A.in1) (vs := vs) (kvs := kvs) (knd := knd) (i := 0) hh1 hz (Nat.ne_of_lt lt1) hdl (Nat.ne_of_lt (Heap.lt_size (hk1 _ _ hx'))) _ _ rfl (Nat.zero_le _) ?_ ?_ ?_ ?_ fun h' tk hd' hk' => ?_
  · exact ⟨_, Heap.get?_push_size _ rfl, rfl, rfl⟩
  · obtain ⟨o, ho, r⟩ := hl1; exact ⟨o, Heap.get?_push_of_some _ ho, r⟩
  · refine hp.mono fun a xs t => ?_
    obtain ⟨o, ho, r⟩ := t
    exact ⟨o, Heap.get?_push_of_some _ (hk1 _ _ (Heap.get?_push_of_some _ ho)), r⟩
  · obtain ⟨o, es, ep, ho, r⟩ := hd1
    exact ⟨o, es, ep, Heap.get?_push_of_some _ ho, r⟩
  · refine ⟨rfl, h h' tk hd' fun b o e => ?_⟩
    have hb1 := hk1 _ _ (Heap.get?_push_of_some { cls := .type "dict", data := .dict #[] } e)
    exact hk' b o (Nat.ne_of_lt (Heap.lt_size e)) (Nat.ne_of_lt (Heap.lt_size hb1)) (Heap.get?_push_of_some _ hb1)
theorem dictP_K {l : Addr} {vs : List Value} {n : Nat} {kvs : List (K × Value)} {h₀ : Heap} {L : Addr} {m : PySem.Str → Option Value} {news : List (Addr × Obj)} {Q : Value → Shared → Prop} (hh : A.handled = none) (F : Fr h₀ L s.heap m) (N : News h₀ L s.heap news) (hbig : h₀.NoLimit) (hm : (l, PySem.W.listOf vs.toArray n) ∈ news)
    (hp : PairsAt knd s.heap vs kvs) (hz : kvs.length ≤ 1000)
    (h : ∀ d h' o tk, Fr h₀ L h' m → News h₀ L h' ((d, o) :: news) → (∀ p ∈ news, p.1 < d) → (d == sysModules) = false → o.IsDictOf knd (merged [] kvs) → Q (.ref d) { s with heap := h', toks := tk }) :
    wpAny (model prog w) A (call (.type "dict") [.ref l]) Q E s := by
  refine dict_of_pairs hh (N _ hm).1 rfl rfl rfl hp hz fun h' tk hd hk => ?_
  obtain ⟨o, ho, hd'⟩ := Heap.dictOf_iff.mp hd
  exact h _ h' o tk (F.kept hk) (N.kept_cons F hk (Nat.le_refl _) ho) (fun p hp => Heap.lt_size (N p hp).1) (F.notModules (modules_low hbig)) hd'
end
end
end
section -- Comp
inductive AreR {α : Type} (R : α → Value → Prop) : List Value → List α → Prop
  | nil : AreR R [] []
  | cons {v : Value} {x : α} {vs : List Value} {xs : List α} (h : R x v) (r : AreR R vs xs) : AreR R (v :: vs) (x :: xs)
namespace AreR
variable {α : Type} {R R' : α → Value → Prop} {vs : List Value} {xs : List α}
theorem length (h : AreR R vs xs) : vs.length = xs.length := by
  induction h with
  | nil => rfl
  | cons _ _ ih => simp [ih]
theorem append {vs' : List Value} {xs' : List α} (h : AreR R vs xs) (h' : AreR R vs' xs') : AreR R (vs ++ vs') (xs ++ xs') := by
  induction h with
  | nil => exact h'
  | cons a _ ih => exact .cons a ih
theorem snoc {v : Value} {x : α} (h : AreR R vs xs) (h' : R x v) : AreR R (vs ++ [v]) (xs ++ [x]) := h.append (.cons h' .nil)
theorem mono (h : AreR R vs xs) (hr : ∀ x ∈ xs, ∀ v, R x v → R' x v) : AreR R' vs xs := by
  induction h with
  | nil => exact .nil
  | cons a _ ih => exact .cons (hr _ (.head _) _ a) (ih fun x hx => hr x (.tail _ hx))
theorem pick (h : AreR R vs xs) : ∀ {i : Nat} {v : Value}, vs[i]? = some v → ∃ x, xs[i]? = some x ∧ R x v := by
  induction h with
  | nil => intro i v e; simp at e
  | cons a _ ih =>
    intro i v e
    cases i with
    | zero => simp only [List.getElem?_cons_zero, Option.some.injEq] at e; subst e; exact ⟨_, rfl, a⟩
    | succ i => simpa using ih (by simpa using e)
theorem bs {f : α → List UInt8} (h : AreR (fun x v => ∃ t, v = .bytes (List.toArray (f x)) t) vs xs) : BsAre vs (xs.map f) := by
  induction h with
  | nil => exact .nil
  | cons a _ ih => obtain ⟨t, rfl⟩ := a; exact .cons _ t ih
theorem intsOf {f : α → Int} (h : AreR (fun x v => ∃ t, v = .int (f x) t) vs xs) : IntsAre vs (xs.map f) := by
  induction h with
  | nil => exact .nil
  | cons a _ ih => obtain ⟨t, rfl⟩ := a; exact .cons _ t ih
end AreR
theorem BsAre.are {vs : List Value} {bs : List (List UInt8)} (h : BsAre vs bs) : AreR (fun x v => ∃ t, v = .bytes (List.toArray x) t) vs bs := by
  induction h with
  | nil => exact .nil
  | cons x t _ ih => exact .cons ⟨t, rfl⟩ ih
noncomputable def CtYes (news : List (Addr × Obj)) (b : Bool) (R : Value → Prop) (y : Value) (news' : List (Addr × Obj)) : Prop := news' = news ∧ b = true ∧ R y
noncomputable def CtNo (news : List (Addr × Obj)) (b : Bool) (news' : List (Addr × Obj)) : Prop := news' = news ∧ b = false
section
open PySem.Calls
variable {prog : Program} {w : World} {A : Around} {h₀ : Heap} {L : Addr} {m : PySem.Str → Option Value} {env : Env} {ct elt : PySem.Expr} {x : PySem.Str} {scope : Scope} {cl : List (PySem.Str × Addr)} {s : Shared} {S : List (Addr × Obj) → Prop} {P : Nat → Value → Prop} {Fin : List Value → List (Addr × Obj) → Prop} {news : List (Addr × Obj)}
theorem ct_rest {α : Type} {n : Nat} {ks : List α} (src : α → Value → Prop) (p : α → Bool) (elR : α → Value → Prop) (hks : ks.length = n) (hP : ∀ i v, i < n → P i v → ∃ k, ks[i]? = some k ∧ src k v)
    (turn : ∀ k v I oI C oC D m₂ ys h tk (E' : Value → Shared → Prop), k ∈ ks → src k v → LCg.NsObj oC m₂ → m₂ x = some v → Fr h₀ L h m → News h₀ L h ((I, oI) :: (C, oC) :: (D, LCg.lst ys) :: news) → LCg.Off3 I C D news → ((@Ne Nat I C) ∧ (@Ne Nat I D) ∧ (@Ne Nat C D)) →
      wpAny (model prog w) A (isTrue ct (compEnvC scope cl C env) (eval ct (compEnvC scope cl C env))) (fun b s' => if b = true then wpAny (model prog w) A (eval elt (compEnvC scope cl C env)) (LCg.CompEnd h₀ L m { s with heap := h, toks := tk } I oI C oC D (LCg.lst ys) S (fun y news' => CtYes news (p k) (elR k) y news')) E' s'
        else LCg.CompEnd h₀ L m { s with heap := h, toks := tk } I oI C oC D (LCg.lst ys) S (fun _ news' => CtNo news (p k) news') Value.none s') E' { s with heap := h, toks := tk })
    (fin : ∀ ys, AreR elR ys (ks.filter p) → Fin ys news) : LCt.CompRestT prog w A h₀ L m env ct elt x scope cl s S P Fin n 0 [] news := by
  have key : ∀ (j i : Nat) (ys : List Value), i + j = n → AreR elR ys ((ks.take i).filter p) → LCt.CompRestT prog w A h₀ L m env ct elt x scope cl s S P Fin j i ys news := by
    intro j
    induction j with
    | zero =>
      intro i ys hi hy
      have e : i = ks.length := by omega
      subst e
      rw [List.take_length] at hy
      exact LCt.CompRestT.zero (fin ys hy)
    | succ j ih =>
      intro i ys hi hy
      refine LCt.CompRestT.succ ?_
      intro v I oI C oC D m₂ h tk E' hv hC hx F N off ne
      obtain ⟨k, hk, hs⟩ := hP i v (by omega) hv
      have hsn : (ks.take (i + 1)).filter p = (ks.take i).filter p ++ (if p k then [k] else []) := by
        rw [List.take_add_one, hk, List.filter_append]
        simp only [Option.toList]
        cases hp : p k <;> simp [hp]
      refine wpAny_mono (turn k v I oI C oC D m₂ ys h tk E' (List.mem_of_getElem? hk) hs hC hx F N off ne) (fun b s₂ hq => ?_) fun _ _ e => e
      cases b with
      | true =>
        simp only [if_true] at hq ⊢
        refine wpAny_mono hq (fun y s₃ hr => ?_) fun _ _ e => e
        obtain ⟨h', tk', nw, e, F', N', off', hS, hn, hp, hy'⟩ := hr
        rw [hn] at N' off' hS
        refine ⟨h', tk', news, e, F', N', off', hS, ih (i + 1) _ (by omega) ?_⟩
        rw [hsn, hp]
        exact hy.snoc hy'
      | false =>
        simp only [Bool.false_eq_true, if_false] at hq ⊢
        obtain ⟨h', tk', nw, e, F', N', off', hS, hn, hp⟩ := hq
        rw [hn] at N' off' hS
        refine ⟨h', tk', news, e, F', N', off', hS, ih (i + 1) _ (by omega) ?_⟩
        rw [hsn, hp]
        simpa using hy
  exact key n 0 [] (by omega) (by simp only [List.take_zero, List.filter_nil]; exact .nil)
noncomputable def TupsIn {α : Type} (keyR : α → Value → Prop) (valR : Value → Prop) (nw : List (Addr × Obj)) (ys : List Value) (ks : List α) : Prop :=
  AreR (fun k y => ∃ a key val, y = .ref a ∧ (a, tupObj #[key, val]) ∈ nw ∧ keyR k key ∧ valR val) ys ks
noncomputable def CpEl (cur : List (Addr × Obj)) (kR vR : Value → Prop) (y : Value) (news' : List (Addr × Obj)) : Prop := ∃ a key val, y = .ref a ∧ news' = (a, tupObj #[key, val]) :: cur ∧ kR key ∧ vR val
theorem cp_rest {α : Type} {n : Nat} {ks : List α} (src keyR : α → Value → Prop) (valR : Value → Prop) (hks : ks.length = n) (hP : ∀ i v, i < n → P i v → ∃ k, ks[i]? = some k ∧ src k v) (hS0 : S news)
    (turn : ∀ cur k v I oI C oC D m₂ ys h tk (E' : Value → Shared → Prop), (∀ p ∈ news, p ∈ cur) → S cur → k ∈ ks → src k v → LCg.NsObj oC m₂ → m₂ x = some v → Fr h₀ L h m → News h₀ L h ((I, oI) :: (C, oC) :: (D, LCg.lst ys) :: cur) → LCg.Off3 I C D cur → ((@Ne Nat I C) ∧ (@Ne Nat I D) ∧ (@Ne Nat C D)) →
      wpAny (model prog w) A (eval elt (compEnvC scope cl C env)) (LCg.CompEnd h₀ L m { s with heap := h, toks := tk } I oI C oC D (LCg.lst ys) S (fun y news' => CpEl cur (keyR k) valR y news')) E' { s with heap := h, toks := tk })
    (fin : ∀ ys news', TupsIn keyR valR news' ys ks → (∀ p ∈ news, p ∈ news') → Fin ys news') : LCg.CompRest prog w A h₀ L m env elt x scope cl s S P Fin n 0 [] news := by
  have key : ∀ (j i : Nat) (ys : List Value) (cur : List (Addr × Obj)), i + j = n → (∀ p ∈ news, p ∈ cur) → S cur → TupsIn keyR valR cur ys (ks.take i) → LCg.CompRest prog w A h₀ L m env elt x scope cl s S P Fin j i ys cur := by
    intro j
    induction j with
    | zero =>
      intro i ys cur hi hc hS hy
      have e : i = ks.length := by omega
      subst e
      rw [List.take_length] at hy
      exact LCg.CompRest.zero (fin ys cur hy hc)
    | succ j ih =>
      intro i ys cur hi hc hS hy
      refine LCg.CompRest.succ ?_
      intro v I oI C oC D m₂ h tk E' hv hC hx F N off ne
      obtain ⟨k, hk, hs⟩ := hP i v (by omega) hv
      refine wpAny_mono (turn cur k v I oI C oC D m₂ ys h tk E' hc hS (List.mem_of_getElem? hk) hs hC hx F N off ne) (fun y s₂ hq => ?_) fun _ _ e => e
      obtain ⟨h', tk', nw, e, F', N', off', hS', a, ky, vl, rfl, rfl, h1, h2⟩ := hq
      refine ⟨h', tk', _, e, F', N', off', hS', ih (i + 1) _ _ (by omega) (fun p hp => .tail _ (hc p hp)) hS' ?_⟩
      rw [List.take_add_one, hk]
      refine AreR.snoc (AreR.mono hy fun k _ v h => ?_) ⟨a, ky, vl, rfl, .head _, h1, h2⟩
      obtain ⟨a', ky', vl', e1, e2, e3⟩ := h
      exact ⟨a', ky', vl', e1, .tail _ e2, e3⟩
  exact key n 0 [] news (by omega) (fun _ h => h) hS0 (by simp only [List.take_zero]; exact .nil)
end
section
variable {prog : Program} {w : World} {K : Type} [DecidableEq K] {knd : PySem.KeyKind prog w K} {A : Around} {E : Value → Shared → Prop} {s : Shared} {h₀ : Heap} {L l : Addr} {m : PySem.Str → Option Value} {news nw : List (Addr × Obj)} {ys : List Value} {Q : Value → Shared → Prop}
theorem mem_merged (k : K) : ∀ (more kvs : List (K × Value)), k ∈ (merged kvs more).map (·.1) ↔ k ∈ kvs.map (·.1) ∨ k ∈ more.map (·.1)
  | [], kvs => by simp [merged]
  | kv :: more, kvs => by
    have ih := mem_merged k more (stored kvs kv.1 kv.2)
    have e : merged kvs (kv :: more) = merged (stored kvs kv.1 kv.2) more := rfl
    rw [e, ih]
    have h2 : k ∈ (stored kvs kv.1 kv.2).map (·.1) ↔ k ∈ kvs.map (·.1) ∨ k = kv.1 := by
      unfold stored
      by_cases h : (kvs.any fun x => decide (x.1 = kv.1)) = true
      · rw [if_pos h, keys_map_store]
        obtain ⟨q, hq, hq'⟩ := List.any_eq_true.mp h
        have hq2 : q.1 = kv.1 := of_decide_eq_true hq'
        constructor
        · exact fun hk => .inl hk
        · rintro (hk | rfl)
          · exact hk
          · exact List.mem_map.mpr ⟨q, hq, hq2⟩
      · rw [if_neg h]; simp
    rw [h2, List.map_cons, List.mem_cons, or_assoc]
theorem dictT_K {α : Type} {f : α → K} {keyR : α → Value → Prop} {valR : Value → Prop} {ks : List α} (hh : A.handled = none) (F : Fr h₀ L s.heap m) (N : News h₀ L s.heap ((l, LCg.lst ys) :: nw)) (hbig : h₀.NoLimit) (hT : TupsIn keyR valR nw ys ks) (hsub : ∀ p ∈ news, p ∈ nw)
    (hk : ∀ k v, keyR k v → knd.is (f k) v = true) (hz : ks.length ≤ 1000)
    (h : ∀ d h' o tk kvs, Fr h₀ L h' m → News h₀ L h' ((d, o) :: news) → (∀ p ∈ news, p.1 < d) → (d == sysModules) = false → o.IsDictOf knd (merged [] kvs) → kvs.map (·.1) = ks.map f → Q (.ref d) { s with heap := h', toks := tk }) :
    wpAny (model prog w) A (call (.type "dict") [.ref l]) Q E s := by
  obtain ⟨kvs, hp, hm⟩ : ∃ kvs, PairsAt knd s.heap ys kvs ∧ kvs.map (·.1) = ks.map f := by
    have N' : News h₀ L s.heap nw := newsTail N
    clear hz N h
    induction hT with
    | nil => exact ⟨[], .nil, rfl⟩
    | cons a _ ih =>
      obtain ⟨kvs, h1, h2⟩ := ih
      obtain ⟨b, ky, vl, rfl, hb, h3, h4⟩ := a
      exact ⟨(f _, vl) :: kvs, .cons ⟨_, (N' _ hb).1, rfl, _, rfl⟩ (hk _ _ h3) h1, by simp [h2]⟩
  have hl : kvs.length = ks.length := by have := congrArg List.length hm; simpa using this
  exact dictP_K hh F N hbig (n := ys.length) (List.Mem.head _) hp (by omega) fun d h' o tk F' N' l1 lo ho => h d h' o tk kvs F' (fun p hp => by
    rcases List.mem_cons.mp hp with rfl | hp
    · exact N' _ (.head _)
    · exact N' _ (.tail _ (.tail _ (hsub p hp)))) (fun p hp => l1 p (.tail _ (hsub p hp))) lo ho hm
end
end
section -- Loop2
section
open PySem.Calls PyProof.V PySem.Spec
variable {prog : Program} {w : World} {A : Around} {E : Value → Shared → Prop} {s : Shared} {env : Env} {h₀ : Heap} {x : Str} {body : List Stmt} {Q : Flow → Shared → Prop}
noncomputable def EndG (h₀ : Heap) (L : Addr) (l : Addr × Obj) (J : (Str → Option Value) → List (Addr × Obj) → Prop) (own : List (Addr × Obj)) (s₁ s₂ : Shared) : Prop :=
  ∃ h' tk m' news' nx, s₂ = { s₁ with heap := h', toks := tk } ∧ Fr h₀ L h' m' ∧ News h₀ L h' news' ∧ (∀ p ∈ nx, p ∈ news') ∧ (∀ p ∈ own, p ∈ news') ∧ l ∈ nx ∧ OwnOff own (nx.map (·.1)) ∧ J m' nx
noncomputable def PostG (h₀ : Heap) (L : Addr) (l : Addr × Obj) (J : (Str → Option Value) → List (Addr × Obj) → Prop) (own : List (Addr × Obj)) (s₁ : Shared) (Q : Flow → Shared → Prop) (f : Flow) (s₂ : Shared) : Prop :=
  match f with
  | .ret v => Q (.ret v) s₂
  | .brk => Q .next s₂
  | _ => EndG h₀ L l J own s₁ s₂
theorem iter_G {l : Addr} {vs : List Value} {nn : Nat} {m₀ : Str → Option Value} {news : List (Addr × Obj)} (J : Nat → (Str → Option Value) → List (Addr × Obj) → Prop)
    (hh : A.handled = none) (hl : (l, listOf vs.toArray nn) ∈ news) (F : Fr h₀ env.locals s.heap m₀) (N : News h₀ env.locals s.heap news) (hj : J 0 m₀ news)
    (turn : ∀ i v m₁ news₁ h tk own, vs[i]? = some v → OwnOff own (news₁.map (·.1)) → (l, listOf vs.toArray nn) ∈ news₁ → J i m₁ news₁ → Fr h₀ env.locals h (fun y => if y = x then some v else m₁ y) → News h₀ env.locals h (news₁ ++ own) →
      wpAny (model prog w) A (execs body env) (PostG h₀ env.locals (l, listOf vs.toArray nn) (J (i + 1)) own { s with heap := h, toks := tk } Q) E { s with heap := h, toks := tk })
    (done : ∀ m₁ news₁ h tk, (l, listOf vs.toArray nn) ∈ news₁ → J vs.length m₁ news₁ → Fr h₀ env.locals h m₁ → News h₀ env.locals h news₁ → Q .next { s with heap := h, toks := tk }) :
    wpAny (model prog w) A (pyIter (.ref l)) (fun it s₂ => LoopAtV prog w A h₀ env x body Q E it s₂) E s := by
  have hol : s.heap.get? l = some (listOf vs.toArray nn) := (N _ hl).1
  have hls : s.heap.IsList l vs.toArray := ⟨_, hol, rfl, nn, rfl⟩
  have hne : l ≠ s.heap.objs.size := Nat.ne_of_lt (Heap.lt_size hol)
  refine wpAny_pyIter_list hls ?_
  have W := Walks.list (prog := prog) (w := w) hh s.heap.objs.size l hne vs.toArray
  have hlen : vs.toArray.size = vs.length := by simp
  rw [hlen] at W
  refine ⟨_, _, _, vs.length, _, _, m₀, news, (fun i m nx => (l, listOf vs.toArray nn) ∈ nx ∧ J i m nx), rfl, W, ?_, ?_, ?_, ⟨⟨_, Heap.get?_push_size _ rfl, rfl, rfl⟩, hls.at fun o e => Heap.get?_push_of_some _ e⟩, F.push _, (fun p hp => ⟨Heap.get?_push_of_some _ (N p hp).1, (N p hp).2⟩), ⟨hl, hj⟩, ?_, ?_⟩
  · intro hm
    rcases List.mem_cons.mp hm with e | hm
    · exact absurd F.ns.lt (e ▸ Nat.lt_irrefl _)
    · exact (N _ hl).2.1 ((List.mem_singleton.mp hm).symm)
  · intro b hb
    rw [List.mem_singleton.mp hb]
    exact next_is_new F
  · intro p hp hI
    exact absurd (Heap.lt_size (N p hp).1) ((List.mem_singleton.mp hI) ▸ Nat.lt_irrefl _)
  · rintro i v m₁ news₁ s₁ own ⟨hh', tk', rfl⟩ hin hP ⟨hl₁, hJ⟩ hoff hown hget hfp hSt F₁ N₁
    have hin9 : i < vs.length := hin
    have hv : vs[i]? = some v := by simpa using hP
    have hlo : hh'.get? l = some (listOf vs.toArray nn) := (N₁ _ (List.mem_append.mpr (.inr hl₁))).1
    have hIo : ∃ o, (s.heap.objs.size, o) ∈ own := by
      obtain ⟨⟨o, ho, _⟩, _⟩ := hSt
      exact ⟨o, hfp _ (.head _) (next_is_new F) o ho⟩
    have hsep : OwnOff (own.filter fun p => decide (p.1 = s.heap.objs.size)) (news₁.map (·.1)) := by
      intro p hp b hb e
      obtain ⟨q, hq, rfl⟩ := List.mem_map.mp hb
      have h1 : p.1 = s.heap.objs.size := by simpa using (List.mem_filter.mp hp).2
      exact hoff q hq (by rw [← e, h1]; exact .head _)
    have N₂ : News h₀ env.locals hh' (news₁ ++ own.filter fun p => decide (p.1 = s.heap.objs.size)) := fun p hp => N₁ p ((List.mem_append.mp hp).elim (fun h => List.mem_append.mpr (.inr h)) fun h => List.mem_append.mpr (.inl ((List.mem_filter.mp h).1)))
    refine wpAny_mono (turn i v m₁ news₁ hh' tk' _ hv hsep hl₁ hJ F₁ N₂) (fun f s₂ p => ?_) fun _ _ e => e
    have fin : EndG h₀ env.locals (l, listOf vs.toArray nn) (J (i + 1)) (own.filter fun p => decide (p.1 = s.heap.objs.size)) { s with heap := hh', toks := tk' } s₂ →
        LoopStepU h₀ env.locals [s.heap.objs.size] own (fun m nx => (l, listOf vs.toArray nn) ∈ nx ∧ J (i + 1) m nx) { s with heap := hh', toks := tk' } .next s₂ := by
      rintro ⟨h', tk, m', news', nx, e, F', N', hn, ho, hl', hof, hm⟩
      refine ⟨rfl, h', tk, m', nx, e, F', fun p hp => ?_, fun p hp hI => ?_, hl', hm⟩
      · rcases List.mem_append.mp hp with h | h
        · by_cases hI : p.1 = s.heap.objs.size
          · exact N' p (ho p (List.mem_filter.mpr ⟨h, by simpa using hI⟩))
          · have h1 : p.1 = l := by
              rcases List.mem_cons.mp (hown p h) with h2 | h2
              · exact absurd h2 hI
              · exact List.mem_singleton.mp h2
            have h2 : hh'.get? p.1 = some p.2 := hget p h
            rw [h1, hlo] at h2
            have h3 : p = (l, listOf vs.toArray nn) := Prod.ext h1 (Option.some.inj h2).symm
            rw [h3]
            exact N' _ (hn _ hl')
        · exact N' p (hn p h)
      · obtain ⟨o, hIo⟩ := hIo
        exact hof (s.heap.objs.size, o) (List.mem_filter.mpr ⟨hIo, by simp⟩) p.1 (List.mem_map.mpr ⟨p, hp, rfl⟩) (List.mem_singleton.mp hI).symm
    cases f with
    | ret v => exact .ret p
    | brk => exact .brk p
    | next => exact .next (fin p)
    | cont => exact .cont (fin p)
  · rintro h' tk m' news' F' N' _ ⟨hl', hJ⟩
    exact done m' news' h' tk hl' hJ F' N'

noncomputable def GS {σ : Type} (Led : σ → List (Addr × Obj)) (ps : σ → List (Str × Value)) (x : Str) (stored : List Str) (m₀ : Str → Option Value) (P : Nat → σ → Prop) (i : Nat) (m : Str → Option Value) (nx : List (Addr × Obj)) : Prop :=
  ∃ c : σ, nx = Led c ∧ (∀ p ∈ ps c, m p.1 = some p.2) ∧ (∀ z, z ≠ x → (∀ p ∈ ps c, z ≠ p.1) → stored.contains z = false → m z = m₀ z) ∧ P i c
theorem loop_G {σ : Type} {l : Addr} {vs : List Value} {nn : Nat} {m₀ : Str → Option Value} (Led : σ → List (Addr × Obj)) (ps : σ → List (Str × Value)) (stored : List Str) (P : Nat → σ → Prop) (c₀ : σ)
    (hh : A.handled = none) (hl : ∀ c : σ, (l, listOf vs.toArray nn) ∈ Led c) (F : Fr h₀ env.locals s.heap m₀) (N : News h₀ env.locals s.heap (Led c₀)) (hk : ∀ p ∈ ps c₀, m₀ p.1 = some p.2) (hp : P 0 c₀)
    (turn : ∀ (c : σ) i v (u : Str → Option Value) h tk own, vs[i]? = some v → OwnOff own ((Led c).map (·.1)) → P i c →
      Fr h₀ env.locals h (fun y => if y = x then some v else kstB (fun z => if stored.contains z then u z else m₀ z) (ps c) y) → News h₀ env.locals h (Led c ++ own) →
      wpAny (model prog w) A (execs body env) (PostG h₀ env.locals (l, listOf vs.toArray nn) (GS Led ps x stored m₀ P (i + 1)) own { s with heap := h, toks := tk } Q) E { s with heap := h, toks := tk })
    (done : ∀ (c : σ) (u : Str → Option Value) h tk, P vs.length c → Fr h₀ env.locals h (fun y => if y = x then u y else kstB (fun z => if stored.contains z then u z else m₀ z) (ps c) y) → News h₀ env.locals h (Led c) → Q .next { s with heap := h, toks := tk }) :
    wpAny (model prog w) A (pyIter (.ref l)) (fun it s₂ => LoopAtV prog w A h₀ env x body Q E it s₂) E s := by
  refine iter_G (GS Led ps x stored m₀ P) hh (hl c₀) F N ⟨c₀, rfl, hk, fun _ _ _ _ => rfl, hp⟩ ?_ ?_
  · rintro i v m₁ nx h tk own hn hoff _ ⟨c, rfl, h1, h2, hp'⟩ F₁ N₁
    exact turn c i v m₁ h tk own hn hoff hp' (kst_fr h1 h2 F₁) N₁
  · rintro m₁ nx h tk _ ⟨c, rfl, h1, h2, hp'⟩ F₁ N₁
    exact done c m₁ h tk hp' (kst_frOut h1 h2 F₁) N₁
theorem endG {σ : Type} {Led : σ → List (Addr × Obj)} {ps : σ → List (Str × Value)} {stored : List Str} {m₀ : Str → Option Value} {P : Nat → σ → Prop} {i : Nat} {l : Addr × Obj} (c : σ) {L : Addr} {m' : Str → Option Value} {own news' : List (Addr × Obj)} {s₁ : Shared} {h' : Heap} {tk : Nat}
    (F : Fr h₀ L h' m') (N : News h₀ L h' news') (hn : ∀ p ∈ Led c, p ∈ news') (ho : ∀ p ∈ own, p ∈ news') (hl : l ∈ Led c) (ha : OwnOff own ((Led c).map (·.1))) (hk : ∀ p ∈ ps c, m' p.1 = some p.2) (hr : ∀ z, z ≠ x → (∀ p ∈ ps c, z ≠ p.1) → stored.contains z = false → m' z = m₀ z) (hp : P i c) :
    EndG h₀ L l (GS Led ps x stored m₀ P i) own s₁ { s₁ with heap := h', toks := tk } :=
  ⟨h', tk, m', news', Led c, rfl, F, N, hn, ho, hl, ha, c, rfl, hk, hr, hp⟩
end
end
section -- Loop3
section
open PySem.Calls PyProof.V PySem.Spec
variable {prog : Program} {w : World} {A : Around} {E : Value → Shared → Prop} {s : Shared} {env : Env} {h₀ : Heap} {x : Str} {body : List Stmt} {Q : Flow → Shared → Prop}
theorem iter_GR {r : Addr} {bb : Int} {t u v : Tok} {n : Nat} {lm : Addr × Obj} {m₀ : Str → Option Value} {news : List (Addr × Obj)} (J : Nat → (Str → Option Value) → List (Addr × Obj) → Prop)
    (hh : A.handled = none) (hr : IsRange s.heap r 0 bb 1 t u v) (hsm : Builtin.Range.small 0 bb 1 = true) (hn : Builtin.Range.rangeSize 0 bb 1 = ((n : Nat) : Int)) (hl : lm ∈ news) (F : Fr h₀ env.locals s.heap m₀) (N : News h₀ env.locals s.heap news) (hj : J 0 m₀ news)
    (turn : ∀ (i : Nat) t m₁ news₁ h tk own, i < n → OwnOff own (news₁.map (·.1)) → lm ∈ news₁ → J i m₁ news₁ → Fr h₀ env.locals h (fun y => if y = x then some (.int (i : Int) t) else m₁ y) → News h₀ env.locals h (news₁ ++ own) →
      wpAny (model prog w) A (execs body env) (PostG h₀ env.locals lm (J (i + 1)) own { s with heap := h, toks := tk } Q) E { s with heap := h, toks := tk })
    (done : ∀ m₁ news₁ h tk, lm ∈ news₁ → J n m₁ news₁ → Fr h₀ env.locals h m₁ → News h₀ env.locals h news₁ → Q .next { s with heap := h, toks := tk }) :
    wpAny (model prog w) A (pyIter (.ref r)) (fun it s₂ => LoopAtV prog w A h₀ env x body Q E it s₂) E s := by
  refine wpAny_pyIter_range hr hsm ?_
  have W := LCg.range_walks (prog := prog) (w := w) (I := s.heap.objs.size) hh 0 n
  refine ⟨_, _, _, n, _, _, m₀, news, (fun i m nx => lm ∈ nx ∧ J i m nx), rfl, W, ?_, ?_, ?_, ?_, F.push _, (fun p hp => ⟨Heap.get?_push_of_some _ (N p hp).1, (N p hp).2⟩), ⟨hl, hj⟩, ?_, ?_⟩
  · intro hm
    exact absurd F.ns.lt ((List.mem_singleton.mp hm) ▸ Nat.lt_irrefl _)
  · intro b hb
    rw [List.mem_singleton.mp hb]
    exact next_is_new F
  · intro p hp hI
    exact absurd (Heap.lt_size (N p hp).1) ((List.mem_singleton.mp hI) ▸ Nat.lt_irrefl _)
  · show IsRangeIter _ _ _ _ _
    rw [hn]
    simpa using Heap.get?_push_size _ rfl
  · rintro i v m₁ news₁ s₁ own ⟨hh', tk', rfl⟩ hin hP ⟨hl₁, hJ⟩ hoff hown hget hfp hSt F₁ N₁
    obtain ⟨tv, rfl⟩ := hP
    have e0 : (0 : Int) + (i : Int) = (i : Int) := Int.zero_add _
    rw [e0] at F₁
    have hIo : ∃ o, (s.heap.objs.size, o) ∈ own := by
      have ho : hh'.get? s.heap.objs.size = some _ := hSt
      exact ⟨_, hfp _ (.head _) (next_is_new F) _ ho⟩
    have hsep : OwnOff own (news₁.map (·.1)) := by
      intro p hp b hb e
      obtain ⟨q, hq, rfl⟩ := List.mem_map.mp hb
      have h1 := hown p hp
      exact hoff q hq (by rw [← e]; exact h1)
    have N₂ : News h₀ env.locals hh' (news₁ ++ own) := fun p hp => N₁ p ((List.mem_append.mp hp).elim (fun h => List.mem_append.mpr (.inr h)) fun h => List.mem_append.mpr (.inl h))
    refine wpAny_mono (turn i tv m₁ news₁ hh' tk' _ hin hsep hl₁ hJ F₁ N₂) (fun f s₂ p => ?_) fun _ _ e => e
    have fin : EndG h₀ env.locals lm (J (i + 1)) own { s with heap := hh', toks := tk' } s₂ →
        LoopStepU h₀ env.locals [s.heap.objs.size] own (fun m nx => lm ∈ nx ∧ J (i + 1) m nx) { s with heap := hh', toks := tk' } .next s₂ := by
      rintro ⟨h', tk, m', news', nx, e, F', N', hn, ho, hl', hof, hm⟩
      refine ⟨rfl, h', tk, m', nx, e, F', fun p hp => ?_, fun p hp hI => ?_, hl', hm⟩
      · rcases List.mem_append.mp hp with h | h
        · exact N' p (ho p h)
        · exact N' p (hn p h)
      · obtain ⟨o, hIo⟩ := hIo
        exact hof _ hIo p.1 (List.mem_map.mpr ⟨p, hp, rfl⟩) (List.mem_singleton.mp hI).symm
    cases f with
    | ret v => exact .ret p
    | brk => exact .brk p
    | next => exact .next (fin p)
    | cont => exact .cont (fin p)
  · rintro h' tk m' news' F' N' _ ⟨hl', hJ⟩
    exact done m' news' h' tk hl' hJ F' N'
end
end
section -- HL
section
open PySem.W PyProof PyProof.V PySem.Calls PySem.Spec
inductive LE where
  | lst (a : Addr) (xs : List AV)
  | tup (a : Addr) (xs : List AV)
  | own (os : List (Addr × Obj))
noncomputable abbrev LL := List LE
noncomputable abbrev tupV (vs : List Value) : Obj := { cls := .type "tuple", data := .seq vs.toArray }
inductive LEs : LE → List (Addr × Obj) → Prop
  | lst {a : Addr} {xs : List AV} {vs : List Value} (n : Nat) (h : ArgsV xs vs) : LEs (.lst a xs) [(a, listOf vs.toArray n)]
  | tup {a : Addr} {xs : List AV} {vs : List Value} (h : ArgsV xs vs) : LEs (.tup a xs) [(a, tupV vs)]
  | own {os : List (Addr × Obj)} : LEs (.own os) os
inductive LLs (nw0 : List (Addr × Obj)) : LL → List (Addr × Obj) → Prop
  | nil : LLs nw0 [] nw0
  | cons {e : LE} {ll : LL} {os nw : List (Addr × Obj)} (h : LEs e os) (r : LLs nw0 ll nw) (off : OwnOff os (nw.map (·.1))) : LLs nw0 (e :: ll) (os ++ nw)
inductive Pk (e : LE) : LL → LL → Prop
  | head {ll : LL} : Pk e (e :: ll) ll
  | tail {d : LE} {ll ll' : LL} (h : Pk e ll ll') : Pk e (d :: ll) (d :: ll')
inductive Sb : LL → LL → Prop
  | nil {ll : LL} : Sb ll []
  | cons {e : LE} {ll ll' l2 : LL} (h : Pk e ll ll') (r : Sb ll' l2) : Sb ll (e :: l2)
theorem Sb.refl : ∀ {ll : LL}, Sb ll ll
  | [] => .nil
  | _ :: _ => .cons .head Sb.refl
theorem off_sub {os nw nw' : List (Addr × Obj)} (h : OwnOff os (nw.map (·.1))) (hs : ∀ p ∈ nw', p ∈ nw) : OwnOff os (nw'.map (·.1)) := fun p hp b hb => by
  obtain ⟨q, hq, rfl⟩ := List.mem_map.mp hb
  exact h p hp _ (List.mem_map.mpr ⟨q, hs q hq, rfl⟩)
theorem off_app {os a b : List (Addr × Obj)} (h1 : OwnOff os (a.map (·.1))) (h2 : OwnOff os (b.map (·.1))) : OwnOff os ((a ++ b).map (·.1)) := fun p hp x hx => by
  rw [List.map_append] at hx
  rcases List.mem_append.mp hx with h | h
  · exact h1 p hp x h
  · exact h2 p hp x h
theorem LLs.inv {nw0 nw : List (Addr × Obj)} {e : LE} {ll : LL} (h : LLs nw0 (e :: ll) nw) : ∃ os nw', LEs e os ∧ LLs nw0 ll nw' ∧ OwnOff os (nw'.map (·.1)) ∧ nw = os ++ nw' := by
  cases h with
  | cons h r off => exact ⟨_, _, h, r, off, rfl⟩
theorem LLs.pick {nw0 : List (Addr × Obj)} {e : LE} {ll ll' : LL} (k : Pk e ll ll') : ∀ {nw : List (Addr × Obj)}, LLs nw0 ll nw → ∃ nw', LLs nw0 (e :: ll') nw' ∧ ∀ p ∈ nw', p ∈ nw := by
  induction k with
  | head => exact fun L => ⟨_, L, fun _ h => h⟩
  | tail _ ih =>
    intro nw L
    obtain ⟨od, nw1, hd, L1, off1, rfl⟩ := L.inv
    obtain ⟨nw2, L2, s2⟩ := ih L1
    obtain ⟨oe, nw3, he, L3, off3, rfl⟩ := L2.inv
    refine ⟨_, .cons he (.cons hd L3 (off_sub off1 fun p hp => s2 p (List.mem_append_right _ hp))) (off_app (fun p hp b hb => ?_) off3), fun p hp => ?_⟩
    · obtain ⟨q, hq, rfl⟩ := List.mem_map.mp hb
      exact fun z => off1 q hq _ (List.mem_map.mpr ⟨p, s2 p (List.mem_append_left _ hp), rfl⟩) z.symm
    · rcases List.mem_append.mp hp with h | h
      · exact List.mem_append_right _ (s2 p (List.mem_append_left _ h))
      · rcases List.mem_append.mp h with h | h
        · exact List.mem_append_left _ h
        · exact List.mem_append_right _ (s2 p (List.mem_append_right _ h))
theorem LLs.all {nw0 : List (Addr × Obj)} {ll : LL} {nw : List (Addr × Obj)} (h : LLs nw0 ll nw) : ∀ p ∈ nw0, p ∈ nw := by
  induction h with
  | nil => exact fun _ h => h
  | cons _ _ _ ih => exact fun p hp => List.mem_append_right _ (ih p hp)
theorem LLs.sub {nw0 : List (Addr × Obj)} {ll l2 : LL} (k : Sb ll l2) : ∀ {nw : List (Addr × Obj)}, LLs nw0 ll nw → ∃ nw', LLs nw0 l2 nw' ∧ ∀ p ∈ nw', p ∈ nw := by
  induction k with
  | nil => exact fun L => ⟨nw0, .nil, L.all⟩
  | cons h _ ih =>
    intro nw L
    obtain ⟨nw1, L1, s1⟩ := L.pick h
    obtain ⟨os, nw2, he, L2, off, rfl⟩ := L1.inv
    obtain ⟨nw3, L3, s3⟩ := ih L2
    refine ⟨_, .cons he L3 (off_sub off s3), fun p hp => s1 p ?_⟩
    rcases List.mem_append.mp hp with h | h
    · exact List.mem_append_left _ h
    · exact List.mem_append_right _ (s3 p h)
theorem LLs.app {nw0 : List (Addr × Obj)} {ll : LL} {nw : List (Addr × Obj)} (h : LLs nw0 ll nw) : ∃ pre, nw = pre ++ nw0 ∧ OwnOff pre (nw0.map (·.1)) ∧ ∀ nw1 : List (Addr × Obj), nw1.map (·.1) = nw0.map (·.1) → LLs nw1 ll (pre ++ nw1) := by
  induction h with
  | nil => exact ⟨[], rfl, (fun _ h => nomatch h), fun _ _ => .nil⟩
  | @cons e ll os nw h r off ih =>
    obtain ⟨pre, rfl, o1, k⟩ := ih
    refine ⟨os ++ pre, (List.append_assoc ..).symm, fun p hp b hb => ?_, fun nw1 e => ?_⟩
    · rcases List.mem_append.mp hp with hp | hp
      · exact off p hp b (by rw [List.map_append]; exact List.mem_append_right _ hb)
      · exact o1 p hp b hb
    · rw [List.append_assoc]
      exact .cons h (k nw1 e) (by rw [List.map_append, e, ← List.map_append]; exact off)
theorem updF_app {d : Addr} {o : Obj} {l : List (Addr × Obj)} {g : Obj → List (Addr × Obj)} (U : UpdF d o l g) : ∀ {pre : List (Addr × Obj)}, (∀ p ∈ pre, p.1 ≠ d) → UpdF d o (pre ++ l) (fun o' => pre ++ g o')
  | [], _ => U
  | p :: pre, h => .tail (h p (.head _)) (updF_app U fun q hq => h q (.tail _ hq))
theorem updF_map {d : Addr} {o : Obj} {l : List (Addr × Obj)} {g : Obj → List (Addr × Obj)} (U : UpdF d o l g) : ∀ o', (g o').map (·.1) = l.map (·.1) := by
  induction U with
  | head _ => exact fun _ => rfl
  | tail _ _ ih => exact fun o' => by rw [List.map_cons, List.map_cons, ih]
noncomputable abbrev LgP {P : Params} {W : Type} (Λ : Lg P W) : Lg P (W × LL) where
  x := Λ.x
  dx := Λ.dx
  C := Λ.C
  Led := fun ω nw => ∃ nw0, Λ.Led ω.1 nw0 ∧ LLs nw0 ω.2 nw
  fs := fun ω => Λ.fs ω.1
  put := fun ω f => (Λ.put ω.1 f, ω.2)
  self := by
    rintro ω nw ⟨nw0, led, L⟩
    obtain ⟨o, g, hi, hD, U, hU⟩ := Λ.self ω.1 nw0 led
    obtain ⟨pre, rfl, off, k⟩ := L.app
    exact ⟨o, fun o' => pre ++ g o', List.mem_append_right _ hi, hD, updF_app U fun p hp => off p hp _ (List.mem_map.mpr ⟨_, upd_mem U, rfl⟩), fun o' f' h => ⟨_, hU o' f' h, k _ (updF_map U o')⟩⟩
variable {W : Type}
noncomputable def IsP (c : Cx (W × LL)) : Prop := ∃ Λ0 : Lg c.w.params W, c.Λ = LgP Λ0
section
variable {c : Cx W} {l l1 l2 : FS} {ω ω1 ω2 : W} {e e1 e2 : Expr} {x y : AV} {nx : Str} {pos pos1 pos2 : Pos} {out : Out W} {rest body orelse : List Stmt} {P : Fl → FS → W → Prop} {Ψ : AV → W → Prop} {op : Operator}
theorem St.sub {s : Shared} (h : Sub l l1) (S : St c l ω s) : St c l1 ω s := by
  obtain ⟨m, nw, a, r⟩ := S
  exact ⟨m, nw, h.rl a, r⟩
theorem SX.sub (h : Sub l l1) (r : SX c l1 ω rest out) : SX c l ω rest out := .mk fun s Q E S H => r.run s Q E (S.sub h) H
structure EY (c : Cx W) (l : FS) (ω : W) (e : Expr) (Ψ : AV → W → Prop) : Prop where
  run : ∀ (s : Shared) (Q E : Value → Shared → Prop), St c l ω s → (∀ s' t x ω', Ψ x ω' → Same s s' → St c l ω' s' → Q (x.v t) s') → wpAny c.M c.A (eval e c.env) Q E s
theorem EX.toY (p : EX c l ω e x ω1) (h : Ψ x ω1) : EY c l ω e Ψ := .mk fun s Q E S H => p.run s Q E S fun s1 t h1 S1 => H s1 t x ω1 h h1 S1
theorem SX.asgY (p : EY c l ω e Ψ) (r : ∀ x ω1, Ψ x ω1 → SX c ((nx, x) :: l) ω1 rest out) (hs : swapsWith e (some (Expr.Name nx pos1)) pos.line c.env = pure false := by rfl) (hx : c.env.kindOf nx = some .local := by rfl) :
    SX c l ω (.Assign [.Name nx pos1] e pos :: rest) out := .mk fun s Q E S H =>
  wpAny_execs_cons (wpAny_Assign_Name (p.run s _ E S fun s1 t x ω1 h h1 S1 => st_store t S1 (fun s2 h2 S2 => (r x ω1 h).run _ _ E S2 (H.on (h1.trans h2))) hx) hs)
theorem SX.retY (p : EY c l ω e Ψ) (h : ∀ x ω1, Ψ x ω1 → P (.ret x) l ω1) : SX c l ω (.Return (some e) pos :: rest) (.post P) := .mk fun s Q E S H =>
  wpAny_execs_cons (wpAny_Return_some (p.run s _ E S fun s1 t x ω1 k h1 S1 => H s1 t l ω1 (.ret x) (h x ω1 k) h1 S1))
theorem SX.ofN (r : SX c l ω rest (.next l1 ω1)) (h : P .next l1 ω1) : SX c l ω rest (.post P) := .mk fun s Q E S H => r.run s Q E S fun s1 h1 S1 => H s1 default l1 ω1 .next h h1 S1
theorem SX.ofR (r : SX c l ω rest (.ret x ω1)) (h : ∀ l1, P (.ret x) l1 ω1) : SX c l ω rest (.post P) := .mk fun s Q E S H => r.run s Q E S fun s1 t l1 h1 S1 => H s1 t l1 ω1 (.ret x) (h l1) h1 S1
theorem SX.done (h : P .next l ω) : SX c l ω [] (.post P) := .mk fun s Q E S H => wpAny_execs_nil (H s default l ω .next h .rfl S)
theorem SX.brk (h : P .brk l ω) : SX c l ω (.Break pos :: rest) (.post P) := .mk fun s Q E S H => wpAny_execs_cons (wpAny_Break (H s default l ω .brk h .rfl S))
noncomputable def Sq (c : Cx W) (rest : List Stmt) (P : Fl → FS → W → Prop) : Fl → FS → W → Prop
  | .next, l, ω => SX c l ω rest (.post P)
  | f, l, ω => P f l ω
theorem sq_run {s s' : Shared} {Q : Flow → Shared → Prop} {E : Value → Shared → Prop} (H : Post c s Q (.post P)) : ∀ s1 t l ω f, Sq c rest P f l ω → Same s s1 → St c l ω s1 → (match f.v t with | .next => wpAny c.M c.A (execs rest c.env) Q E s1 | f => Q f s1) := by
  intro s1 t l ω f h h1 S1
  cases f with
  | next => exact h.run s1 Q E S1 (H.on h1)
  | brk => exact H s1 t l ω .brk h h1 S1
  | ret x => exact H s1 t l ω (.ret x) h h1 S1
theorem SX.ifP {q : Bool} (p : TX c l ω e q ω1) (b : SX c l ω1 (if q then body else orelse) (.post (Sq c rest P))) : SX c l ω (.If e body orelse pos :: rest) (.post P) := .mk fun s Q E S H =>
  wpAny_execs_cons (wpAny_If (p.run s _ E _ S (fun s1 h1 S1 => by
    cases q with
    | true => rw [if_pos rfl] at b ⊢; exact b.run s1 _ E S1 fun s2 t l2 ω2 f h2 hs S2 => sq_run (E := E) (s' := s) (H.on (h1.trans hs)) s2 t l2 ω2 f h2 .rfl S2
    | false => rw [if_neg (by decide)] at b ⊢; exact b.run s1 _ E S1 fun s2 t l2 ω2 f h2 hs S2 => sq_run (E := E) (s' := s) (H.on (h1.trans hs)) s2 t l2 ω2 f h2 .rfl S2) rfl))
theorem SX.augN {z : AV} (hl : l.lookup nx = some x) (p : EX c l ω e y ω1) (o : Ip c.M c.A op x y z) (r : SX c ((nx, z) :: l) ω1 rest out) (hx : c.env.kindOf nx = some .local := by rfl) :
    SX c l ω (.AugAssign (.Name nx pos2) op e pos :: rest) out := .mk fun s Q E S H => by
  refine St.elim S fun m nw a led F N => ?_
  obtain ⟨t, ht⟩ := a _ _ hl
  exact wpAny_execs_cons (wpAny_AugAssign_Name (wpAny_loadName_local c.hk hx F.ns ht (p.run s _ E S fun s1 u h1 S1 => o.run _ _ E t u fun k t' =>
    st_store t' (s := { s1 with toks := k }) S1 (fun s2 h2 S2 => r.run _ _ E S2 (H.on (h1.trans ⟨h2.1, h2.2⟩))) hx)))
structure WX (c : Cx W) (l : FS) (ω : W) (test : Expr) (body : List Stmt) (P : Fl → FS → W → Prop) : Prop where
  run : ∀ (s : Shared) (Q : Flow → Shared → Prop), St c l ω s → Post c s Q (.post P) → WhlRest rw_on0267_01.row.prog c.w c.A (fun _ _ => False) c.env test body [] Q 0 s
noncomputable def Wq (c : Cx W) (test : Expr) (body : List Stmt) (P : Fl → FS → W → Prop) : Fl → FS → W → Prop
  | .next, l, ω => WX c l ω test body P
  | .brk, l, ω => P .next l ω
  | .ret x, l, ω => P (.ret x) l ω
theorem no_pass {A : Around} {env : Env} {M : Model} : PassesOwn M A env (fun _ _ => False) := fun _ _ h => h.elim
theorem WX.f {test : Expr} (p : TX c l ω test false ω1) (h : P .next l ω1) : WX c l ω test body P := .mk fun s Q S H =>
  whl_turn (k := 0) no_pass (p.run s _ _ _ S (fun s1 h1 S1 => .no rfl (wpAny_execs_nil (H s1 default l ω1 .next h h1 S1))) rfl)
theorem WX.t {test : Expr} (p : TX c l ω test true ω1) (b : SX c l ω1 body (.post (Wq c test body P))) : WX c l ω test body P := .mk fun s Q S H =>
  whl_turn (k := 0) no_pass (p.run s _ _ _ S (fun s1 h1 S1 => .yes rfl (b.run s1 _ _ S1 fun s2 t l2 ω2 f h2 hs S2 => by
    cases f with
    | next => exact h2.run s2 Q S2 (H.on (h1.trans hs))
    | brk => exact H s2 t l2 ω2 .next h2 (h1.trans hs) S2
    | ret x => exact H s2 t l2 ω2 (.ret x) h2 (h1.trans hs) S2)) rfl)
theorem WX.sub {test : Expr} (h : Sub l l1) (r : WX c l1 ω test body P) : WX c l ω test body P := .mk fun s Q S H => r.run s Q (S.sub h) H
theorem SX.whl {test : Expr} (r : WX c l ω test body (Sq c rest P)) : SX c l ω (.While test body [] pos :: rest) (.post P) := .mk fun s Q E S H =>
  wpAny_execs_cons (wpAny_mono (whl_start 0 (r.run s _ S fun s1 t l1 ω1 f h h1 S1 => sq_run (E := E) (s' := s) H s1 t l1 ω1 f h h1 S1)) (fun _ _ h => h) fun _ _ h => h.elim)
theorem SX.tn2Y {x2 : AV} {n1 n2 : Str} {k1 k2 : Nat} {pos3 pos4 : Pos} (p1 : EY c l ω e1 Ψ) (p2 : ∀ x ω1, Ψ x ω1 → EX c l ω1 e2 x2 ω1) (r : ∀ x ω1, Ψ x ω1 → SX c ((n1, x) :: (n2, x2) :: l) ω1 rest out)
    (hs1 : swapsWithSole [Expr.Tuple [.Name n1 pos1, .Name n2 pos2] k1 pos3] (.Tuple [e1, e2] k2 pos4) pos.line c.env = pure false := by rfl)
    (hs2 : swappedStores [Expr.Tuple [.Name n1 pos1, .Name n2 pos2] k1 pos3] (.Tuple [e1, e2] k2 pos4) c.env = pure (some [n1, n2]) := by rfl)
    (ha : starEach [e1, e2] c.env = (false, eval e1 c.env) :: starEach [e2] c.env := by rfl) (hb : starEach [e2] c.env = (false, eval e2 c.env) :: starEach [] c.env := by rfl)
    (hx1 : c.env.kindOf n1 = some .local := by rfl) (hx2 : c.env.kindOf n2 = some .local := by rfl) :
    SX c l ω (.Assign [.Tuple [.Name n1 pos1, .Name n2 pos2] k1 pos3] (.Tuple [e1, e2] k2 pos4) pos :: rest) out := .mk fun s Q E S H => by
  refine wpAny_execs_cons (Assign_Tuple_swapped (names := [n1, n2]) (PyProof.Rows.Tuple_ (args_cons (p1.run _ _ E S fun s1 t1 x ω1 k h1 S1 => args_cons ((p2 x ω1 k).run _ _ E S1 fun s2 t2 h2 S2 => args_nil ?_) hb) ha)) hs1 hs2)
  refine St.elim S2 fun vs nw a led F2 N2 => ?_
  refine kup_newTuple F2 N2 (fun D h3 F3 N3 lt => ?_) (by rw [sizeLine_eq]; exact Nat.le_of_ble_eq_true rfl)
  refine unpackItemsN_ (items := #[x.v t1, x2.v t2]) F3 N3 (News.isTup N3 (.head _)) rfl rfl (fun h4 F4 N4 => ?_)
  refine assignInOrder_cons (wpAny_bindName (st_store t2 (c := c) (ω := ω1) (st_drop a led F4 N4) (fun s5 h5 S5 => ?_) hx2))
  refine assignInOrder_cons (wpAny_bindName (st_store t1 S5 (fun s6 h6 S6 => ?_) hx1))
  exact assignInOrder_nil ((r x ω1 k).run _ _ E S6 (H.on (((h1.trans h2).trans ⟨h5.1, h5.2⟩).trans h6)))
theorem SX.tn2 {x1 x2 : AV} {n1 n2 : Str} {k1 k2 : Nat} {pos3 pos4 : Pos} (p1 : EX c l ω e1 x1 ω) (p2 : EX c l ω e2 x2 ω) (r : SX c ((n1, x1) :: (n2, x2) :: l) ω rest out)
    (hs1 : swapsWithSole [Expr.Tuple [.Name n1 pos1, .Name n2 pos2] k1 pos3] (.Tuple [e1, e2] k2 pos4) pos.line c.env = pure false := by rfl)
    (hs2 : swappedStores [Expr.Tuple [.Name n1 pos1, .Name n2 pos2] k1 pos3] (.Tuple [e1, e2] k2 pos4) c.env = pure (some [n1, n2]) := by rfl)
    (ha : starEach [e1, e2] c.env = (false, eval e1 c.env) :: starEach [e2] c.env := by rfl) (hb : starEach [e2] c.env = (false, eval e2 c.env) :: starEach [] c.env := by rfl)
    (hx1 : c.env.kindOf n1 = some .local := by rfl) (hx2 : c.env.kindOf n2 = some .local := by rfl) :
    SX c l ω (.Assign [.Tuple [.Name n1 pos1, .Name n2 pos2] k1 pos3] (.Tuple [e1, e2] k2 pos4) pos :: rest) out :=
  SX.tn2Y (Ψ := fun x ω' => x = x1 ∧ ω' = ω) (p1.toY ⟨rfl, rfl⟩) (fun x ω' h => h.2.symm ▸ p2) (fun x ω' h => by rw [h.1, h.2]; exact r) hs1 hs2 ha hb hx1 hx2
theorem WX.ind {test : Expr} {σ : Type} (F : σ → FS) (V : σ → W) (μ : σ → Nat) (I : σ → Prop) (s0 : σ) (h0 : I s0) (hs : Sub l (F s0)) (hv : ω = V s0)
    (turn : ∀ s, I s → (∀ s' l' ω', I s' → μ s' < μ s → Sub l' (F s') → ω' = V s' → WX c l' ω' test body P) → WX c (F s) (V s) test body P) : WX c l ω test body P := by
  subst hv
  have H : ∀ n s, μ s = n → I s → WX c (F s) (V s) test body P := fun n => by
    induction n using Nat.strongRecOn with
    | ind n ih => exact fun s e h => turn s h fun s' l' ω' h1 h2 h3 h4 => h4 ▸ WX.sub h3 (ih _ (e ▸ h2) s' rfl h1)
  exact WX.sub hs (H _ s0 rfl h0)
end
end
end
section -- HL2
section
open PySem.W PyProof PyProof.V PySem.Calls PySem.Spec
theorem ArgsV.len {xs : List AV} {vs : List Value} (h : ArgsV xs vs) : vs.length = xs.length := by
  induction h with
  | nil => rfl
  | cons t _ ih => rw [List.length_cons, List.length_cons, ih]
theorem ArgsV.at {xs : List AV} {vs : List Value} (h : ArgsV xs vs) : ∀ {i : Nat} {x : AV}, xs[i]? = some x → ∃ t, vs[i]? = some (x.v t) := by
  induction h with
  | nil => exact fun e => by simp at e
  | cons t _ ih =>
    intro i x e
    cases i with
    | zero => rw [List.getElem?_cons_zero] at e ⊢; cases e; exact ⟨t, rfl⟩
    | succ i => rw [List.getElem?_cons_succ] at e ⊢; exact ih e
theorem ArgsV.back {xs : List AV} {vs : List Value} (h : ArgsV xs vs) {i : Nat} {v : Value} (e : vs[i]? = some v) : ∃ x t, xs[i]? = some x ∧ v = x.v t := by
  induction h generalizing i with
  | nil => simp at e
  | @cons a l vs t _ ih =>
    cases i with
    | zero => rw [List.getElem?_cons_zero] at e ⊢; cases e; exact ⟨a, t, rfl, rfl⟩
    | succ i => rw [List.getElem?_cons_succ] at e ⊢; exact ih e
theorem ArgsV.snoc {xs : List AV} {vs : List Value} (h : ArgsV xs vs) (x : AV) (t : Tok) : ArgsV (xs ++ [x]) (vs ++ [x.v t]) := by
  induction h with
  | nil => exact .cons t .nil
  | cons u _ ih => exact .cons u ih
theorem ArgsV.ints {ns : List Int} : ∀ {vs : List Value}, ArgsV (ns.map .int) vs → IntsAre vs ns := by
  induction ns with
  | nil => intro vs h; cases h; exact .nil
  | cons n ns ih => intro vs h; obtain ⟨t, vs', rfl, h'⟩ := h.inv; exact .cons n t (ih h')
theorem LLs.lst {nw0 : List (Addr × Obj)} {a : Addr} {xs : List AV} {ll : LL} {nw : List (Addr × Obj)} (h : LLs nw0 ll nw) (hm : LE.lst a xs ∈ ll) : ∃ vs n, ArgsV xs vs ∧ (a, listOf vs.toArray n) ∈ nw := by
  induction h with
  | nil => cases hm
  | cons h _ _ ih =>
    rcases List.mem_cons.mp hm with e | hm
    · subst e; cases h with | lst n h => exact ⟨_, n, h, .head _⟩
    · obtain ⟨vs, n, a, b⟩ := ih hm; exact ⟨vs, n, a, List.mem_append_right _ b⟩
variable {W : Type} {c : Cx (W × LL)} {l : FS} {ω ω1 ω2 : W} {ll ll1 ll2 : LL} {Ω Ω1 Ω2 : W × LL} {e e1 e2 : Expr} {es : List Expr} {x y : AV} {xs : List AV} {nx ny : Str} {pos pos1 pos2 pos3 pos4 : Pos} {out : Out (W × LL)} {rest body orelse : List Stmt} {a : Addr} {P : Fl → FS → W × LL → Prop} {n k i : Int} {ns : List Int} {q : Bool}
theorem St.opn {s : Shared} (hp : IsP c) (S : St c l Ω s) : ∃ m nw nw0, Rl l m ∧ LLs nw0 Ω.2 nw ∧ Fr c.g c.L s.heap m ∧ News c.g c.L s.heap nw ∧ ∀ ll' nw', LLs nw0 ll' nw' → c.Λ.Led (Ω.1, ll') nw' := by
  obtain ⟨Λ0, e⟩ := hp
  refine St.elim S fun m nw a led F N => ?_
  rw [e] at led
  obtain ⟨nw0, l0, L⟩ := led
  exact ⟨m, nw, nw0, a, L, F, N, fun ll' nw' L' => by rw [e]; exact ⟨nw0, l0, L'⟩⟩
theorem St.use {s : Shared} {G : Prop} (hp : IsP c) (S : St c l Ω s) (k : ∀ m nw nw0, Rl l m → LLs nw0 Ω.2 nw → Fr c.g c.L s.heap m → News c.g c.L s.heap nw → (∀ ll' nw', LLs nw0 ll' nw' → c.Λ.Led (Ω.1, ll') nw') → G) : G := by
  obtain ⟨m, nw, nw0, a, L, F, N, kk⟩ := S.opn hp
  exact k m nw nw0 a L F N kk
theorem LLs.useL {nw0 : List (Addr × Obj)} {a : Addr} {xs : List AV} {ll : LL} {nw : List (Addr × Obj)} {G : Prop} (h : LLs nw0 ll nw) (hm : LE.lst a xs ∈ ll) (k : ∀ vs n, ArgsV xs vs → (a, listOf vs.toArray n) ∈ nw → G) : G := by
  obtain ⟨vs, n, a, b⟩ := h.lst hm
  exact k vs n a b
theorem LLs.pickL {nw0 : List (Addr × Obj)} {a : Addr} {xs : List AV} {ll ll' : LL} {nw : List (Addr × Obj)} {G : Prop} (h : LLs nw0 ll nw) (hk : Pk (.lst a xs) ll ll') (k : ∀ vs n nw', ArgsV xs vs → LLs nw0 ll' nw' → (∀ o, OwnOff [(a, o)] (nw'.map (·.1))) → (∀ p ∈ (a, listOf vs.toArray n) :: nw', p ∈ nw) → G) : G := by
  obtain ⟨nw1, L1, s1⟩ := h.pick hk
  obtain ⟨os, nw2, le, L2, off, rfl⟩ := L1.inv
  cases le with
  | @lst _ _ vs n av => exact k vs n nw2 av L2 (fun o p hp b hb => by rw [List.mem_singleton.mp hp]; exact off (a, listOf vs.toArray n) (.head _) b hb) s1
theorem St.wk {s : Shared} (hp : IsP c) (h : Sb ll ll1) (S : St c l (ω, ll) s) : St c l (ω, ll1) s := by
  refine St.use hp S fun m nw nw0 a L F N k => ?_
  obtain ⟨nw', L', s'⟩ := L.sub h
  exact ⟨m, nw', a, k _ _ L', F, fun p hp => N p (s' p hp)⟩
theorem SX.wk (h : Sb ll ll1) (r : SX c l (ω, ll1) rest out) (hp : IsP c := by exact ⟨_, rfl⟩) : SX c l (ω, ll) rest out := .mk fun s Q E S H => r.run s Q E (S.wk hp h) H
theorem EY.lst (ps : EXs c l Ω es xs Ω1) (hz : Nat.ble xs.length 1000 = true := by rfl) (hp : IsP c := by exact ⟨_, rfl⟩) : EY c l Ω (.List es pos) (fun x Ω2 => ∃ a, x = .val (.ref a) ∧ Ω2 = (Ω1.1, .lst a xs :: Ω1.2)) := .mk fun s Q E S H =>
  List_ (ps.run pos s _ E S fun s1 vs h1 S1 av => by
    refine St.use hp S1 fun m nw nw0 a L F N k => ?_
    exact newList_K F N (fun a' h' F' N' lt => H { s1 with heap := h' } default _ _ ⟨a', rfl, rfl⟩ (h1.trans ⟨rfl, rfl, rfl⟩) ⟨m, _, a, k _ _ (.cons (.lst 0 av) L fun p hp b hb => by
      obtain ⟨q, hq, rfl⟩ := List.mem_map.mp hb
      rw [List.mem_singleton.mp hp]; exact (Nat.ne_of_lt (lt q hq)).symm), F', N'⟩) (by rw [av.len, sizeLine_eq]; exact Nat.le_trans (Nat.le_of_ble_eq_true hz) (by decide)))
theorem EY.tup {k : Nat} (ps : EXs c l Ω es xs Ω1) (hz : Nat.ble xs.length 1000 = true := by rfl) (hp : IsP c := by exact ⟨_, rfl⟩) : EY c l Ω (.Tuple es k pos) (fun x Ω2 => ∃ a, x = .val (.ref a) ∧ Ω2 = (Ω1.1, .tup a xs :: Ω1.2)) := .mk fun s Q E S H =>
  PyProof.Rows.Tuple_ (ps.run pos s _ E S fun s1 vs h1 S1 av => by
    refine St.use hp S1 fun m nw nw0 a L F N k => ?_
    exact kup_newTuple F N (fun a' h' F' N' lt => H { s1 with heap := h' } default _ _ ⟨a', rfl, rfl⟩ (h1.trans ⟨rfl, rfl, rfl⟩) ⟨m, _, a, k _ _ (.cons (.tup av) L fun p hp b hb => by
      obtain ⟨q, hq, rfl⟩ := List.mem_map.mp hb
      rw [List.mem_singleton.mp hp]; exact (Nat.ne_of_lt (lt q hq)).symm), F', N'⟩) (by rw [av.len, sizeLine_eq]; exact Nat.le_trans (Nat.le_of_ble_eq_true hz) (by decide)))
theorem EX.b1 {W : Type} {c : Cx W} {ω ω1 ω2 : W} {id : String} (hb : bootBuiltins nx = some (.builtin id)) (p : EX c l ω e x ω1) (H : ∀ (s : Shared) (Q E : Value → Shared → Prop) (t : Tok), St c l ω1 s → (∀ s' t', Same s s' → St c l ω2 s' → Q (y.v t') s') → wpAny c.M c.A (call (.builtin id) [x.v t]) Q E s)
    (e0 : nsIn c.K mainGlobals nx = some none) (hn : nx ≠ "__name__" := by decide) (hx : c.env.kindOf nx = some .globalImplicit := by rfl) (hd : (nx == ("__debug__" : Str)) = false := by decide)
    (h1 : eval (.Call (.Name nx pos1) [e] [] pos) c.env = (do
        let f1 ← eval (.Name nx pos1) c.env
        callWith pos f1 [] (backTo pos (starEach [e] c.env)) (backToKw pos (keywordEach [] c.env))) := by rfl)
    (h2 : starEach [e] c.env = (false, eval e c.env) :: starEach [] c.env := by rfl) : EX c l ω (.Call (.Name nx pos1) [e] [] pos) y ω2 := .mk fun s Q E S H' => by
  refine St.elim S fun vs nw a led F N => ?_
  refine Call_ (nameX_B F c.X (topRead_of c.T) e0 hb hn ?_ c.hk hx hd) h1
  exact PyProof.Rows.callWith_builtin1 (args_cons (p.run _ _ E S fun s1 t h S1 => args_nil (H s1 Q E t S1 fun s2 t' h' S2 => H' s2 t' (h.trans h') S2)) h2) h2 rfl
theorem EX.b1t {W : Type} {c : Cx W} {ω ω1 ω2 : W} {id : String} (hb : bootBuiltins nx = some (.type id)) (p : EX c l ω e x ω1) (H : ∀ (s : Shared) (Q E : Value → Shared → Prop) (t : Tok), St c l ω1 s → (∀ s' t', Same s s' → St c l ω2 s' → Q (y.v t') s') → wpAny c.M c.A (call (.type id) [x.v t]) Q E s)
    (e0 : nsIn c.K mainGlobals nx = some none) (hn : nx ≠ "__name__" := by decide) (hx : c.env.kindOf nx = some .globalImplicit := by rfl) (hd : (nx == ("__debug__" : Str)) = false := by decide)
    (h1 : eval (.Call (.Name nx pos1) [e] [] pos) c.env = (do
        let f1 ← eval (.Name nx pos1) c.env
        callWith pos f1 [] (backTo pos (starEach [e] c.env)) (backToKw pos (keywordEach [] c.env))) := by rfl)
    (h2 : starEach [e] c.env = (false, eval e c.env) :: starEach [] c.env := by rfl) : EX c l ω (.Call (.Name nx pos1) [e] [] pos) y ω2 := .mk fun s Q E S H' => by
  refine St.elim S fun vs nw a led F N => ?_
  refine Call_ (nameX_B F c.X (topRead_of c.T) e0 hb hn ?_ c.hk hx hd) h1
  exact Pv.callWith_type1 (args_cons (p.run _ _ E S fun s1 t h S1 => args_nil (H s1 Q E t S1 fun s2 t' h' S2 => H' s2 t' (h.trans h') S2)) h2) h2
theorem ns_len {P : Params} : nsIn (hd.heap_1 P) mainGlobals (Str.ofString "len") = some none := by kernel_rfl
theorem ns_ord {P : Params} : nsIn (hd.heap_1 P) mainGlobals (Str.ofString "ord") = some none := by kernel_rfl
theorem ns_bytes {P : Params} : nsIn (hd.heap_1 P) mainGlobals (Str.ofString "bytes") = some none := by kernel_rfl
theorem ns_range {P : Params} : nsIn (hd.heap_1 P) mainGlobals (Str.ofString "range") = some none := by kernel_rfl
theorem EX.lenL (p : EX c l Ω e (.val (.ref a)) Ω1) (hm : LE.lst a xs ∈ Ω1.2) (hz : xs.length ≤ 10000) (hp : IsP c := by exact ⟨_, rfl⟩)
    (hx : c.env.kindOf (Str.ofString "len") = some .globalImplicit := by rfl)
    (h1 : eval (.Call (.Name (Str.ofString "len") pos1) [e] [] pos) c.env = (do
        let f1 ← eval (.Name (Str.ofString "len") pos1) c.env
        callWith pos f1 [] (backTo pos (starEach [e] c.env)) (backToKw pos (keywordEach [] c.env))) := by rfl)
    (h2 : starEach [e] c.env = (false, eval e c.env) :: starEach [] c.env := by rfl) : EX c l Ω (.Call (.Name (Str.ofString "len") pos1) [e] [] pos) (.int xs.length) Ω1 :=
  EX.b1 boot_len p (fun s Q E t S H => by
    refine St.use hp S fun m nw nw0 a' L F N k => ?_
    refine L.useL hm fun vs n av hn => ?_
    refine PyProof.Rows.len_list ⟨_, N.get hn, rfl, n, rfl⟩ (by rw [List.size_toArray, av.len]; omega) ?_
    rw [List.size_toArray, av.len]
    exact H _ _ ⟨rfl, rfl, rfl⟩ S) ns_len (by decide) hx (by decide) h1 h2
theorem EX.ord {W : Type} {c : Cx W} {ω ω1 : W} {b : Str} {k : Nat} (p : EX c l ω e (.str b) ω1) (hb : b = ⟨#[k]⟩) (hn : (k : Int) = n) (hx : c.env.kindOf (Str.ofString "ord") = some .globalImplicit := by rfl)
    (h1 : eval (.Call (.Name (Str.ofString "ord") pos1) [e] [] pos) c.env = (do
        let f1 ← eval (.Name (Str.ofString "ord") pos1) c.env
        callWith pos f1 [] (backTo pos (starEach [e] c.env)) (backToKw pos (keywordEach [] c.env))) := by rfl)
    (h2 : starEach [e] c.env = (false, eval e c.env) :: starEach [] c.env := by rfl) : EX c l ω (.Call (.Name (Str.ofString "ord") pos1) [e] [] pos) (.int n) ω1 :=
  EX.b1 boot_ord p (fun s Q E t S H => by
    subst hb hn
    exact PySem.P.ord_of_char (c := k) (H _ _ ⟨rfl, rfl, rfl⟩ S)) ns_ord (by decide) hx (by decide) h1 h2
theorem EX.cs {W : Type} {c : Cx W} {ω : W} {b : Str} {kk : Nat} : EX c l ω (.Constant (.str b) kk pos) (.str b) ω := .mk fun s Q E S H => wpAny_Constant_str (H _ s.toks ⟨rfl, rfl, rfl⟩ S)
theorem EX.bytesL {b : List UInt8} (p : EX c l Ω e (.val (.ref a)) Ω1) (hm : LE.lst a (b.map fun u => .int (u.toNat : Nat)) ∈ Ω1.2) (hz : b.length ≤ 10000) (hp : IsP c := by exact ⟨_, rfl⟩)
    (hx : c.env.kindOf (Str.ofString "bytes") = some .globalImplicit := by rfl)
    (h1 : eval (.Call (.Name (Str.ofString "bytes") pos1) [e] [] pos) c.env = (do
        let f1 ← eval (.Name (Str.ofString "bytes") pos1) c.env
        callWith pos f1 [] (backTo pos (starEach [e] c.env)) (backToKw pos (keywordEach [] c.env))) := by rfl)
    (h2 : starEach [e] c.env = (false, eval e c.env) :: starEach [] c.env := by rfl) : EX c l Ω (.Call (.Name (Str.ofString "bytes") pos1) [e] [] pos) (.bytes b) Ω1 :=
  EX.b1t boot_bytes p (fun s Q E t S H => by
    refine St.use hp S fun m nw nw0 a' L F N k => ?_
    refine L.useL hm fun vs n av hn => ?_
    have hO : Oct vs b := ArgsV.ints (by rw [List.map_map]; exact av)
    exact bytes_oct F N hn hO hz rfl fun h' t k' F' N' => H _ t ⟨rfl, rfl, rfl⟩ ⟨m, nw, a', k _ _ L, F', N'⟩) ns_bytes (by decide) hx (by decide) h1 h2
theorem EX.itemL (p1 : EX c l Ω e1 (.val (.ref a)) Ω1) (p2 : EX c l Ω1 e2 (.int i) Ω2) (hm : LE.lst a xs ∈ Ω2.2) (h0 : 0 ≤ i) (h1 : i < 1000) (hx : xs[i.toNat]? = some x) (hp : IsP c := by exact ⟨_, rfl⟩)
    (hs : ∀ u, subscripted e2 false (.ref a) (.int i u) = operate [.ref a, .int i u] (getItem (.ref a) (.int i u)) := by intro _; with_unfolding_all rfl)
    (ht : ∀ r, letTemporaryGo e1 (.ref a) r = pure () := by intro _; with_unfolding_all rfl) : EX c l Ω (.Subscript e1 e2 pos) x Ω2 := .mk fun s Q E S H =>
  Subscript_ (p1.run s _ E S fun s1 t h1' S1 => p2.run _ _ E S1 fun s2 t' h2 S2 => by
    refine St.use hp S2 fun m nw nw0 a' L F N k => ?_
    refine L.useL hm fun vs n av hn => ?_
    obtain ⟨u, hu⟩ := av.at hx
    have hL : s2.heap.IsList a vs.toArray := ⟨_, N.get hn, rfl, n, rfl⟩
    exact subscriptTail_builtin hL.typeIs slot_list_getitem.lookup (wpAny_getItem_list hL h0 (by omega) (by simpa using hu) (H s2 u (h1'.trans h2) S2)) (hs t') ht)
theorem EX.inL (p1 : EX c l Ω e1 (.int k) Ω1) (p2 : EX c l Ω1 e2 (.val (.ref a)) Ω2) (hm : LE.lst a xs ∈ Ω2.2) (hI : ∀ vs, ArgsV xs vs → IntsAre vs ns) (hq : ns.any (· == k) = q) (hp : IsP c := by exact ⟨_, rfl⟩) (hb : behindInMarks .In e2 = false := by rfl) : EX c l Ω (.Compare e1 [.In] [e2] pos) (.val (.bool q)) Ω2 := .mk fun s Q E S H =>
  wpAny_Compare1 (p1.run s _ E S fun s1 t h1' S1 => p2.run _ _ E S1 fun s2 t' h2 S2 => by
    refine St.use hp S2 fun m nw nw0 a' L F N _ => ?_
    refine L.useL hm fun vs n av hn => ?_
    exact in_list_ints ⟨_, N.get hn, rfl, n, rfl⟩ (hI _ av) (by rw [hq]; exact H s2 default (h1'.trans h2) S2)) hb
theorem TX.notinL (p1 : EX c l Ω e1 (.int k) Ω1) (p2 : EX c l Ω1 e2 (.val (.ref a)) Ω2) (hm : LE.lst a xs ∈ Ω2.2) (hI : ∀ vs, ArgsV xs vs → IntsAre vs ns) (hq : ns.any (· == k) = q) (hp : IsP c := by exact ⟨_, rfl⟩) (hb : behindInMarks .NotIn e2 = false := by rfl) : TX c l Ω (.Compare e1 [.NotIn] [e2] pos) (!q) Ω2 := .mk fun s Q E whole S H _ =>
  wpAny_isTrue_Compare1 (p1.run s _ E S fun s1 t h1' S1 => p2.run _ _ E S1 fun s2 t' h2 S2 => by
    refine St.use hp S2 fun m nw nw0 a' L F N _ => ?_
    refine L.useL hm fun vs n av hn => ?_
    exact notin_list_ints ⟨_, N.get hn, rfl, n, rfl⟩ (hI _ av) (by rw [hq]; exact wpAny_truthy_bool (H s2 (h1'.trans h2) S2))) hb
theorem EX.app (hv : l.lookup nx = some (.val (.ref a))) (hm0 : LE.lst a xs ∈ Ω.2) (p : EX c l Ω e x Ω1) (hm : Pk (LE.lst a xs) Ω1.2 ll2) (hz : xs.length ≤ 10000) (hp : IsP c := by exact ⟨_, rfl⟩)
    (hx : c.env.kindOf nx = some .local := by rfl) (hd : (nx == ("__debug__" : Str)) = false := by decide) {pl : Sem Bool}
    (he : eval (.Call (.Attribute (.Name nx pos2) (Str.ofString "append") pos1) [e] [] pos) c.env = (do
      let ov ← eval (.Name nx pos2) c.env
      standAt pos1.atName
      let (f, first) ← holding [ov] (getMethod ov (Str.ofString "append") pl)
      callWith pos f first (backTo pos (starEach [e] c.env)) []) := by rfl)
    (ha : starEach [e] c.env = (false, eval e c.env) :: starEach [] c.env := by rfl) : EX c l Ω (.Call (.Attribute (.Name nx pos2) (Str.ofString "append") pos1) [e] [] pos) (.val .none) (Ω1.1, .lst a (xs ++ [x]) :: ll2) := .mk fun s Q E S H =>
  MethodCall_ ((EX.nm hv hx hd).run s _ E S fun s1 t h1 S1 => by
    have S1' := S1
    refine St.use hp S1' fun m nw nw0 a' L F N k => ?_
    refine L.useL hm0 fun vs n av hn => ?_
    refine listMethod_K N hn PySem.F.slot_list_append PySem.F.type_list_append (callWith_method1 (args_cons (p.run _ _ E S1 fun s2 t2 h2 S2 => args_nil ?_) ha) ha rfl)
    refine St.use hp S2 fun m2 nw2 nw02 a2 L2 F2 N2 k2 => ?_
    refine L2.pickL hm fun vs2 n2 nw4 av2 L4 off s3 => ?_
    exact append_K F2 (fun p hp => N2 p (s3 p hp)) (.head fun p hp e => off default _ (.head _) p.1 (List.mem_map.mpr ⟨p, hp, rfl⟩) e.symm) (fun h' F' N' => H { s2 with heap := h' } default ((h1.trans h2).trans ⟨rfl, rfl, rfl⟩) ⟨m2, _, a2, k2 _ _ (.cons (.lst (n2 + 1) (av2.snoc x t2)) L4 (off _)), F', List.push_toArray .. ▸ N'⟩) (by rw [List.size_toArray, av2.len, sizeLine_eq]; omega)) he
theorem Cm.eqS {prog : Program} {w : World} {A : Around} {b b' : Str} : Cm (model prog w) A .Eq (.str b) (.str b') (b.cps.toList == b'.cps.toList) := .mk fun s Q E t u H => PySem.P.eq_str H
theorem Cm.eqIS {prog : Program} {w : World} {A : Around} {b' : Str} : Cm (model prog w) A .Eq (.int n) (.str b') false := .mk fun s Q E t u H => EqMixed.eq_int_str H
theorem bq_t {n k : Int} (h : n = k) : (n == k) = true := beq_iff_eq.mpr h
theorem bq_f {n k : Int} (h : n ≠ k) : (n == k) = false := beq_eq_false_iff_ne.mpr h
theorem and_t {a b : Bool} (h : a = true) (h2 : b = true) : (a && b) = true := by rw [h, h2]; rfl
theorem and_f2 {a b : Bool} (h : b = false) : (a && b) = false := by rw [h, Bool.and_false]
theorem or_t1 {a b : Bool} (h : a = true) : (a || b) = true := by rw [h]; rfl
theorem or_t2 {a b : Bool} (h : b = true) : (a || b) = true := by rw [h, Bool.or_true]
theorem or_f {a b : Bool} (h : a = false) (h2 : b = false) : (a || b) = false := by rw [h, h2]; rfl
theorem not_t {a : Bool} (h : a = false) : (!a) = true := by rw [h]; rfl
end
end
section -- HL3
variable {w : World} {A₀ : Around} {base h₀ : Heap} {outer : List Env} {L a : Addr} {m : Str → Option Value} {news : List (Addr × Obj)} {g : Obj → List (Addr × Obj)} {s : Shared} {Q E : Value → Shared → Prop} {dp un : Nat} {gd : Option (List Code)} {cn : Str} {cs : Scope} {ccd : Value} {cl : List (Str × Addr)} {loose : List Str} {mean : ExcName → Option Value} {mg mb : Str → Option Value}
section
open PySem.W PyProof PyProof.V PySem.Calls PySem.Spec
variable {W : Type}
noncomputable def RetP (Ψ : AV → W → Prop) : Fl → FS → W → Prop
  | .next, _, ω => Ψ (.val .none) ω
  | .ret x, _, ω => Ψ x ω
  | .brk, _, _ => False
structure FY (w : World) (Λ : Lg w.params W) (N : Nat) (f : Addr) (args : List AV) (ω : W) (Ψ : AV → W → Prop) : Prop where
  code : ∀ {A₀ : Around} {base h₀ : Heap} {outer : List Env} {L a : Addr} {m : Str → Option Value} {dp un : Nat} {gd : Option (List Code)} {cn : Str} {cs : Scope} {ccd : Value} {cl : List (Str × Addr)} {loose : List Str} {mean : ExcName → Option Value} {mg mb : Str → Option Value}
    {s : Shared} {R : Result → Shared → Prop} {nw : List (Addr × Obj)} {vs : List Value},
    Below A₀ base outer h₀ → (hd.heap_1 w.params).In h₀ → Top topProg loose mean mg mb h₀ → cs.kind = .function → dp < N → Fr h₀ L s.heap m → News h₀ L s.heap nw → Λ.Led ω nw → ArgsV args vs →
    (∀ s' t x ω' nw', Ψ x ω' → Same s s' → Fr h₀ L s'.heap m → News h₀ L s'.heap nw' → Λ.Led ω' nw' → R (.ok (.ret (x.v t))) s') →
    codeAny (model rw_on0267_01.row.prog w) (ktrTop dp un gd cn cs L a ccd cl outer) (.call (.ref f) ⟨vs, []⟩) R s
theorem FY.of {w : World} {Λ : Lg w.params W} {N : Nat} {f : Addr} {args : List AV} {ω : W} {Ψ : AV → W → Prop} {l0 : FS} {name qual : Str} {params : Arguments} {body : List Stmt} {scope : Scope} {dV kV doc pm cdv ct oc : Value} {an od : Option Addr} {osl : Array (Option Value)}
    (b : ∀ (hk : scope.kind = .function) (bs : Bs w), bs.dp < N + 1 →
      SX (Cx.of Λ qual scope f cdv hk bs) l0 ω body (.post (RetP Ψ)))
    (ho : (hd.heap_1 w.params).lookup f = some ⟨oc, od, .func (fnOf name qual params body scope dV kV doc pm an cdv ct), osl⟩) (hcd : codeIn (hd.heap_1 w.params) cdv qual = true) (hN : Nat.ble N 900 = true)
    (hbind : ∀ s vs, ArgsV args vs → ∃ lv, BindsTo s (fnOf name qual params body scope dV kV doc pm an cdv ct) ⟨vs, []⟩ lv ∧ AVs l0 lv.reverse ∧ ∀ y ∈ lv, scope.names.lookup y.1 = some .local)
    (hco : scope.isCoroutine = false) (hgen : scope.isGenerator = false) (hk : scope.kind = .function) (hcell : ∀ x ∈ scope.names, x.2 ≠ .cell) : FY w Λ N f args ω Ψ := by
  refine .mk fun {A₀ base h₀ outer L a m dp un gd cn cs ccd cl loose mean mg mb s R nw vs} B X T hks hdp F Nw led hargs ret => ?_
  obtain ⟨lv, hb, hA, hl⟩ := hbind s vs hargs
  refine code_def B F X Nw T rfl rfl hks ho hcd ?_ hb hl (fun g' L' h1 FG F' N' B' X' T' => ?_) hco hgen hk hcell
  · exact Nat.lt_of_lt_of_le hdp (Nat.le_trans (Nat.le_of_ble_eq_true hN) (by decide))
  · refine (b hk ⟨dp + 1, un + 3, gd, L', envX cn cs L a ccd cl :: outer, g', _, _, loose, mean, mg, mb, B', X', T'⟩ (Nat.succ_lt_succ hdp)).run _ _ _ ?S ?P
    case S => exact ⟨_, nw, hA.rl, led, F', N'⟩
    intro s2 t l2 ω2 fl k h2 S2
    refine St.elim S2 fun vs2 nw2 _ led2 F2 N2 => ?_
    cases fl with
    | next => exact leaveK_ F2 N2 fun F3 N3 => ret s2 default _ ω2 nw2 k (Same.trans ⟨rfl, rfl, rfl⟩ h2) F3 N3 led2
    | ret x => exact leaveK_ F2 N2 fun F3 N3 => ret s2 t x ω2 nw2 k (Same.trans ⟨rfl, rfl, rfl⟩ h2) F3 N3 led2
    | brk => exact k.elim
theorem ArgsV.inv2 {a b : AV} {vs : List Value} (h : ArgsV [a, b] vs) : ∃ t u, vs = [AV.v a t, AV.v b u] := by
  obtain ⟨t, vs', rfl, h'⟩ := h.inv
  obtain ⟨u, rfl⟩ := h'.inv1
  exact ⟨t, u, rfl⟩
theorem bind1 {n1 : Str} {fd : FuncData} {a1 : AV} {scope : Scope} (hb : ∀ v, bindArgs fd ⟨[v], []⟩ = pure [(n1, v)]) (hl : scope.names.lookup n1 = some .local) : ∀ (s : Shared) (vs : List Value), ArgsV [a1] vs → ∃ lv, BindsTo s fd ⟨vs, []⟩ lv ∧ AVs [(n1, a1)] lv.reverse ∧ ∀ y ∈ lv, scope.names.lookup y.1 = some .local := fun s vs h => by
  obtain ⟨t, rfl⟩ := h.inv1
  exact ⟨[(n1, a1.v t)], BindsTo.of_eq (hb _), .cons t .nil, fun y hy => by rw [List.mem_singleton.mp hy]; exact hl⟩
theorem bind2 {n1 n2 : Str} {fd : FuncData} {a1 a2 : AV} {scope : Scope} (hb : ∀ v u, bindArgs fd ⟨[v, u], []⟩ = pure [(n1, v), (n2, u)]) (hl : scope.names.lookup n1 = some .local) (hl2 : scope.names.lookup n2 = some .local) : ∀ (s : Shared) (vs : List Value), ArgsV [a1, a2] vs → ∃ lv, BindsTo s fd ⟨vs, []⟩ lv ∧ AVs [(n2, a2), (n1, a1)] lv.reverse ∧ ∀ y ∈ lv, scope.names.lookup y.1 = some .local := fun s vs h => by
  obtain ⟨t, u, rfl⟩ := h.inv2
  refine ⟨[(n1, a1.v t), (n2, a2.v u)], BindsTo.of_eq (hb _ _), .cons u (.cons t .nil), fun y hy => ?_⟩
  rcases List.mem_cons.mp hy with rfl | hy
  · exact hl
  · rw [List.mem_singleton.mp hy]; exact hl2
theorem EY.fn {c : Cx W} {l : FS} {ω ω1 : W} {Ψ : AV → W → Prop} {e : Expr} {es : List Expr} {xs : List AV} {nx : Str} {pos pos1 : Pos} {f : Addr} {N : Nat} (hg : nsIn c.K mainGlobals nx = some (some (.ref f))) (h4 : keepIn c.K (.ref f) = true) (ps : EXs c l ω (e :: es) xs ω1) (fy : FY c.w c.Λ N f xs ω1 Ψ) (hN : c.dp < N)
    (he : eval (.Call (.Name nx pos1) (e :: es) [] pos) c.env = (do
        let f1 ← eval (.Name nx pos1) c.env
        callWith pos f1 [] (backTo pos (starEach (e :: es) c.env)) (backToKw pos (keywordEach [] c.env))) := by rfl)
    (ha : starEach (e :: es) c.env = (false, eval e c.env) :: starEach es c.env := by rfl) (hp : (backTo pos (starEach es c.env)).any (·.1) = false := by rfl)
    (hx : c.env.kindOf nx = some .globalImplicit := by rfl) (hd : (nx == ("__debug__" : Str)) = false := by decide) : EY c l ω (.Call (.Name nx pos1) (e :: es) [] pos) Ψ := .mk fun s Q E S H => by
  refine St.elim S fun vs nw a led F Nw => ?_
  refine Call_ (nameX_K F c.X (topRead_of c.T) hg (callWith_K c.X h4 (ps.run pos s _ E S fun s2 vs2 h2' S2 av => ?_) ha hp) c.hk hx hd) he
  refine St.elim S2 fun vs2' nw2 a2 led2 F2 N2 => ?_
  exact ⟨c.X.keeps F2.keep, wpAny_call (fy.code c.B c.X c.T c.hk hN F2 N2 led2 av fun s3 t x ω' nw' k h3 F3 N3 led3 => H s3 t x ω' k (h2'.trans h3) ⟨vs2', nw', a2, led3, F3, N3⟩)⟩
theorem MC.lift {w : World} {x dx C : Addr} {N : Nat} {f : Addr} {args : List AV} {fs fs' : FS} {y : AV} (mc : ∀ g hx hU, MC w (LgS w.params x dx C g hx hU) N f args fs y fs') (g : Obj → List (Addr × Obj)) (hx : ∀ o', (x, instObj C dx) ∈ g o') (hU : ∀ o', UpdF dx o' (g o') g) (ll : LL) :
    MC w (LgP (LgS w.params x dx C g hx hU)) N f args (fs, ll) y (fs', ll) := .mk fun {A₀ base h₀ outer L a m dp un gd cn cs ccd cl loose mean mg mb s R nw vs} B X T hk hdp F Nw led ha H => by
  obtain ⟨nw0, ⟨o, hD, rfl⟩, L⟩ := led
  obtain ⟨pre, rfl, off, k⟩ := L.app
  have off' : ∀ p ∈ pre, p.1 ≠ dx := fun p hp => off p hp _ (List.mem_map.mpr ⟨_, upd_mem (hU o), rfl⟩)
  exact (mc (fun o' => pre ++ g o') (fun o' => List.mem_append_right _ (hx o')) (fun o' => updF_app (hU o') off')).code B X T hk hdp F Nw ⟨o, hD, rfl⟩ ha fun s' t nw' h F' N' ⟨o', hD', e⟩ => H s' t nw' h F' N' ⟨g o', ⟨o', hD', rfl⟩, by rw [e]; exact k _ (updF_map (hU o) o')⟩
variable {c : Cx (W × LL)} {l : FS} {ω : W} {ll ll1 : LL} {Ω Ω1 : W × LL} {e : Expr} {xs : List AV} {nx ny : Str} {pos pos1 pos2 pos3 : Pos} {rest body : List Stmt} {a : Addr} {P : Fl → FS → W × LL → Prop} {J : Nat → FS → W × LL → Prop}
noncomputable def Fq (os : List (Addr × Obj)) (J : FS → W × LL → Prop) (P : Fl → FS → W × LL → Prop) : Fl → FS → W × LL → Prop
  | .next, l, Ω => ∃ l' ll', Sub l l' ∧ Sb Ω.2 (.own os :: ll') ∧ J l' (Ω.1, ll')
  | .brk, _, _ => False
  | .ret x, l, Ω => P (.ret x) l Ω
theorem lm_in (hp : IsP c) {nw : List (Addr × Obj)} (h : c.Λ.Led Ω nw) : (c.Λ.x, instObj c.Λ.C c.Λ.dx) ∈ nw := by
  obtain ⟨_, _, hi, _⟩ := c.Λ.self Ω nw h
  exact hi
theorem led_opn (hp : IsP c) {nw : List (Addr × Obj)} (h : c.Λ.Led Ω nw) {G : Prop} (k : ∀ nw0, LLs nw0 Ω.2 nw → (∀ ll' nw', LLs nw0 ll' nw' → c.Λ.Led (Ω.1, ll') nw') → G) : G := by
  obtain ⟨Λ0, e⟩ := hp
  rw [e] at h
  obtain ⟨nw0, l0, L⟩ := h
  exact k nw0 L fun ll' nw' L' => by rw [e]; exact ⟨nw0, l0, L'⟩
theorem fq_end (hp : IsP c) {os : List (Addr × Obj)} {J1 : FS → W × LL → Prop} {s2 : Shared} (S : St c l Ω s2) (k : ∃ l' ll', Sub l l' ∧ Sb Ω.2 (.own os :: ll') ∧ J1 l' (Ω.1, ll')) {G : Prop}
    (K : ∀ m' nw' l' Ω', Rl l' m' → c.Λ.Led Ω' nw' → OwnOff os (nw'.map (·.1)) → Fr c.g c.L s2.heap m' → News c.g c.L s2.heap (os ++ nw') → J1 l' Ω' → G) : G := by
  obtain ⟨l', ll', hs, hb, hJ⟩ := k
  refine ((S.sub hs).wk hp hb).use hp fun m' nw' nw0 a L F N kk => ?_
  obtain ⟨os', nw2, he, L2, off, rfl⟩ := L.inv
  cases he
  exact K m' nw2 l' _ a (kk _ _ L2) off F N hJ
theorem SX.forR {mm : Nat} (p : EX c l Ω e (.int (mm : Nat)) Ω1) (hz : mm ≤ 10000) (h0 : J 0 l Ω1)
    (turn : ∀ i os l ω ll, i < mm → J i l (ω, ll) → SX c ((nx, .int (i : Nat)) :: l) (ω, .own os :: ll) body (.post (Fq os (J (i + 1)) P)))
    (done : ∀ l Ω, J mm l Ω → SX c l Ω rest (.post P)) (hp : IsP c := by exact ⟨_, rfl⟩) (hx : c.env.kindOf nx = some .local := by rfl)
    (hr : c.env.kindOf (Str.ofString "range") = some .globalImplicit := by rfl) (hq : (c.env.scope.kind == .class || (c.env.scope.kind == .module && c.env.locals != c.env.globals)) = false := by rfl)
    (h1 : eval (.Call (.Name (Str.ofString "range") pos2) [e] [] pos3) c.env = (do
        let f1 ← eval (.Name (Str.ofString "range") pos2) c.env
        callWith pos3 f1 [] (backTo pos3 (starEach [e] c.env)) (backToKw pos3 (keywordEach [] c.env))) := by rfl)
    (h2 : starEach [e] c.env = (false, eval e c.env) :: starEach [] c.env := by rfl) : SX c l Ω (.For (.Name nx pos1) (.Call (.Name (Str.ofString "range") pos2) [e] [] pos3) body [] pos :: rest) (.post P) := .mk fun s Q E S H => by
  refine wpAny_execs_cons (wpAny_mono (E := fun _ _ => False) (For_invV c.g hx hq ?_ (by intro _; rfl) no_pass) (fun _ _ h => h) fun _ _ h => h.elim)
  refine St.elim S fun _ _ _ _ F _ => ?_
  refine Call_ (nameX_B F c.X (topRead_of c.T) ns_range boot_range (by decide) ?_ c.hk hr (by decide)) h1
  refine Pv.callWith_type1 (args_cons (p.run _ _ _ S fun s1 t g1 S1 => args_nil ?_) h2) h2
  refine St.elim S1 fun m1 nw1 a1 led1 F1 N1 => ?_
  refine range1_rows F1 N1 fun h' tk t1 u1 v1 hR F2 N2 _ => ?_
  refine iter_GR (s := { s1 with heap := h', toks := tk }) (n := mm) (lm := (c.Λ.x, instObj c.Λ.C c.Λ.dx)) (fun i m nx' => ∃ l Ω, J i l Ω ∧ Rl l m ∧ c.Λ.Led Ω nx') rfl hR (small_one (by omega) (by omega) (by omega) (by omega)) (rangeSize_nat _ _) (lm_in hp led1) F2 N2 ⟨l, Ω1, h0, a1, led1⟩ ?_ ?_
  · rintro i t2 m₁ news₁ h tk2 own hi hoff _ ⟨l2, Ω2, hJ, hRl, led⟩ F3 N3
    refine led_opn hp led fun nw0 L k => ?_
    refine (turn i own l2 Ω2.1 Ω2.2 hi hJ).run { s1 with heap := h, toks := tk2 } _ _ ⟨_, own ++ news₁, hRl.cons nx (.int (i : Nat)) t2, k _ _ (.cons .own L hoff), F3, fun p hp => N3 p ((List.mem_append.mp hp).elim (List.mem_append_right _) (List.mem_append_left _))⟩ fun s4 t4 l4 Ω4 f k4 h4 S4 => ?_
    cases f with
    | brk => exact k4.elim
    | ret x => exact H s4 t4 l4 Ω4 (.ret x) k4 ((g1.trans ⟨rfl, rfl, rfl⟩).trans h4) S4
    | next =>
      refine fq_end hp S4 k4 fun m' nw' l' Ω' hRl' led' off' F' N' hJ' => ?_
      exact ⟨s4.heap, s4.toks, m', own ++ nw', nw', h4.to, F', N', fun p hp => List.mem_append_right _ hp, fun p hp => List.mem_append_left _ hp, lm_in hp led', off', l', Ω', hJ', hRl', led'⟩
  · rintro m₁ news₁ h tk2 _ ⟨l2, Ω2, hJ, hRl, led⟩ F3 N3
    exact (done l2 Ω2 hJ).run { s1 with heap := h, toks := tk2 } Q E ⟨m₁, news₁, hRl, led, F3, N3⟩ (H.on (g1.trans ⟨rfl, rfl, rfl⟩))
theorem SX.forL (hv : l.lookup ny = some (.val (.ref a))) (hk : Pk (.lst a xs) ll ll1) (h0 : J 0 l (ω, ll1))
    (turn : ∀ i os l ω ll x, xs[i]? = some x → J i l (ω, ll) → SX c ((nx, x) :: l) (ω, .own os :: ll) body (.post (Fq os (J (i + 1)) P)))
    (done : ∀ l Ω, J xs.length l Ω → SX c l Ω rest (.post P)) (hp : IsP c := by exact ⟨_, rfl⟩) (hx : c.env.kindOf nx = some .local := by rfl)
    (hy : c.env.kindOf ny = some .local := by rfl) (hd : (ny == ("__debug__" : Str)) = false := by decide) (hq : (c.env.scope.kind == .class || (c.env.scope.kind == .module && c.env.locals != c.env.globals)) = false := by rfl) :
    SX c l (ω, ll) (.For (.Name nx pos1) (.Name ny pos2) body [] pos :: rest) (.post P) := .mk fun s Q E S H => by
  refine wpAny_execs_cons (wpAny_mono (E := fun _ _ => False) (For_invV c.g hx hq ?_ (by intro _; rfl) no_pass) (fun _ _ h => h) fun _ _ h => h.elim)
  refine (EX.nm hv hy hd).run s _ _ S fun s1 t g1 S1 => ?_
  refine St.use hp S1 fun m1 nw1 nw0 a1 L1 F1 N1 k1 => ?_
  refine L1.pickL hk fun vs nn nw3 av L3 off s2 => ?_
  refine iter_G (s := s1) (l := a) (vs := vs) (nn := nn) (fun i m nx' => ∃ l Ω nw', J i l Ω ∧ Rl l m ∧ nx' = (a, listOf vs.toArray nn) :: nw' ∧ c.Λ.Led Ω nw' ∧ OwnOff [(a, listOf vs.toArray nn)] (nw'.map (·.1))) rfl (.head _) F1 (fun p hp => N1 p (s2 p hp)) ⟨l, _, nw3, h0, a1, rfl, k1 _ _ L3, off _⟩ ?_ ?_
  · rintro i v m₁ news₁ h tk2 own hi hoff _ ⟨l2, Ω2, nw', hJ, hRl, rfl, led, off2⟩ F3 N4
    refine led_opn hp led fun nwz L k => ?_
    obtain ⟨x, u, hx', rfl⟩ := av.back hi
    have hz : OwnOff (own ++ [(a, listOf vs.toArray nn)]) (nw'.map (·.1)) := fun p hp b hb => by
      rcases List.mem_append.mp hp with h | h
      · exact hoff p h b (by rw [List.map_cons]; exact .tail _ hb)
      · exact off2 p h b hb
    refine (turn i (own ++ [(a, listOf vs.toArray nn)]) l2 Ω2.1 Ω2.2 x hx' hJ).run { s1 with heap := h, toks := tk2 } _ _ ⟨_, _, hRl.cons nx x u, k _ _ (.cons .own L hz), F3, fun p hp => N4 p ?_⟩ fun s4 t4 l4 Ω4 f k4 h4 S4 => ?_
    · rcases List.mem_append.mp hp with h | h
      · rcases List.mem_append.mp h with h | h
        · exact List.mem_append_right _ h
        · exact List.mem_append_left _ (by rw [List.mem_singleton.mp h]; exact .head _)
      · exact List.mem_append_left _ (.tail _ h)
    · cases f with
      | brk => exact k4.elim
      | ret x => exact H s4 t4 l4 Ω4 (.ret x) k4 ((g1.trans ⟨rfl, rfl, rfl⟩).trans h4) S4
      | next =>
        refine fq_end hp S4 k4 fun m' nw' l' Ω' hRl' led' off' F' N' hJ' => ?_
        refine ⟨s4.heap, s4.toks, m', _, (a, listOf vs.toArray nn) :: nw', h4.to, F', N', fun p hp => ?_, fun p hp => List.mem_append_left _ (List.mem_append_left _ hp), .head _, fun p hp b hb => ?_, l', Ω', nw', hJ', hRl', rfl, led', fun p hp => off' p (List.mem_append_right _ hp)⟩
        · rcases List.mem_cons.mp hp with rfl | hp
          · exact List.mem_append_left _ (List.mem_append_right _ (.head _))
          · exact List.mem_append_right _ hp
        · rw [List.map_cons] at hb
          rcases List.mem_cons.mp hb with rfl | hb
          · exact hoff p hp _ (by rw [List.map_cons]; exact .head _)
          · exact off' p (List.mem_append_left _ hp) b hb
  · rintro m₁ news₁ h tk2 _ ⟨l2, Ω2, nw', hJ, hRl, rfl, led, off2⟩ F3 N4
    exact (done l2 Ω2 (av.len ▸ hJ)).run { s1 with heap := h, toks := tk2 } Q E ⟨m₁, nw', hRl, led, F3, fun p hp => N4 p (.tail _ hp)⟩ (H.on (g1.trans ⟨rfl, rfl, rfl⟩))
section
variable {W : Type} {c : Cx W} {l l1 : FS} {ω ω1 ω2 : W} {test : Expr} {body rest : List Stmt} {pos : Pos} {msg : List UInt8} {nx : Str} {k : Int} {tk9 : Tok}
theorem EX.globI (hg : nsIn c.K mainGlobals nx = some (some (.int k tk9))) (hx : c.env.kindOf nx = some .globalImplicit := by rfl) (hd : (nx == ("__debug__" : Str)) = false := by decide) : EX c l ω (.Name nx pos) (.int k) ω := .mk fun s Q E S H =>
  (EX.glob hg hx hd).run s Q E S fun s' _ => H s' tk9
structure WR (c : Cx W) (l : FS) (ω : W) (test : Expr) (body : List Stmt) (msg : List UInt8) (ω' : W) : Prop where
  run : ∀ (s : Shared) (Q : Flow → Shared → Prop) (E : Value → Shared → Prop), PassesOwn c.M c.A c.env E → St c l ω s → (∀ s' e, Same s s' → Rd c msg ω' e s' → E (.ref e) s') → WhlRest rw_on0267_01.row.prog c.w c.A E c.env test body [] Q 0 s
theorem WR.t (p : TX c l ω test true ω1) (b : SX c l ω1 body (.post fun f l ω => f = .next ∧ WR c l ω test body msg ω2)) : WR c l ω test body msg ω2 := .mk fun s Q E hE S H =>
  whl_turn (k := 0) hE (p.run s _ _ _ S (fun s1 h1 S1 => .yes rfl (b.run s1 _ _ S1 fun s2 t l2 ω2 f h2 hs S2 => by
    obtain ⟨rfl, h2⟩ := h2
    exact h2.run s2 Q E hE S2 fun s3 e h3 => H s3 e ((h1.trans hs).trans h3))) rfl)
theorem WR.r (p : TX c l ω test true ω1) (b : RX c l ω1 body msg ω2) : WR c l ω test body msg ω2 := .mk fun s Q E hE S H =>
  whl_turn (k := 0) hE (p.run s _ _ _ S (fun s1 h1 S1 => .yes rfl (b.run s1 _ _ hE S1 fun s3 e h3 => H s3 e (h1.trans h3))) rfl)
theorem WR.sub (h : Sub l l1) (r : WR c l1 ω test body msg ω2) : WR c l ω test body msg ω2 := .mk fun s Q E hE S H => r.run s Q E hE (S.sub h) H
theorem RX.whl (r : WR c l ω test body msg ω2) : RX c l ω (.While test body [] pos :: rest) msg ω2 := .mk fun s Q E hE S H => wpAny_execs_cons (whl_start 0 (r.run s _ E hE S H))
theorem WR.ind {σ : Type} (F : σ → FS) (V : σ → W) (μ : σ → Nat) (I : σ → Prop) (s0 : σ) (h0 : I s0) (hs : Sub l (F s0)) (hv : ω = V s0)
    (turn : ∀ s, I s → (∀ s' l' ω', I s' → μ s' < μ s → Sub l' (F s') → ω' = V s' → WR c l' ω' test body msg ω2) → WR c (F s) (V s) test body msg ω2) : WR c l ω test body msg ω2 := by
  subst hv
  have H : ∀ n s, μ s = n → I s → WR c (F s) (V s) test body msg ω2 := fun n => by
    induction n using Nat.strongRecOn with
    | ind n ih => exact fun s e h => turn s h fun s' l' ω' h1 h2 h3 h4 => h4 ▸ WR.sub h3 (ih _ (e ▸ h2) s' rfl h1)
  exact WR.sub hs (H _ s0 rfl h0)
theorem RX.asgY {e : Expr} {pos1 : Pos} {Ψ : AV → W → Prop} (p : EY c l ω e Ψ) (r : ∀ x ω1, Ψ x ω1 → RX c ((nx, x) :: l) ω1 rest msg ω2) (hs : swapsWith e (some (Expr.Name nx pos1)) pos.line c.env = pure false := by rfl) (hx : c.env.kindOf nx = some .local := by rfl) :
    RX c l ω (.Assign [.Name nx pos1] e pos :: rest) msg ω2 := .mk fun s Q E hE S H =>
  wpAny_execs_cons (wpAny_Assign_Name (p.run s _ E S fun s1 t x ω1 h h1 S1 => st_store t S1 (fun s2 h2 S2 => (r x ω1 h).run _ _ E hE S2 fun s3 e h3 => H s3 e ((h1.trans h2).trans h3)) hx) hs)
theorem RX.ifE (p : TX c l ω test false ω1) (b : SX c l ω1 body (.next l1 ω1)) (r : RX c l1 ω1 rest msg ω2) {bd : List Stmt} : RX c l ω (.If test bd body pos :: rest) msg ω2 := .mk fun s Q E hE S H =>
  wpAny_execs_cons (wpAny_If (p.run s _ E _ S (fun s1 h1 S1 => by rw [if_neg (by decide)]; exact b.run _ _ E S1 fun s2 h2 S2 => r.run _ _ E hE S2 fun s3 e h3 => H s3 e ((h1.trans h2).trans h3)) rfl))
end
theorem RX.wk {W : Type} {c : Cx (W × LL)} {l : FS} {ω : W} {ll ll1 : LL} {rest : List Stmt} {msg : List UInt8} {Ω : W × LL} (h : Sb ll ll1) (r : RX c l (ω, ll1) rest msg Ω) (hp : IsP c := by exact ⟨_, rfl⟩) : RX c l (ω, ll) rest msg Ω := .mk fun s Q E hE S H => r.run s Q E hE (S.wk hp h) H
theorem RC.unP {W : Type} {w : World} {Λ : Lg w.params W} {N : Nat} {f : Addr} {args : List AV} {ω ω' : W} {msg : List UInt8} (r : RC w (LgP Λ) N f args (ω, []) msg (ω', [])) : RC w Λ N f args ω msg ω' := .mk fun B X T hk hdp F Nw led ha H =>
  r.code B X T hk hdp F Nw ⟨_, led, .nil⟩ ha fun s' G e de hsh k n tk nw' h FG R U led' => by
    obtain ⟨nw0, l0, L⟩ := led'
    cases L
    exact H s' G e de hsh k n tk _ h FG R U l0
theorem useY {x dx C : Addr} {o : Obj} {fs : FS} {f : Addr} {args : List AV} {vs : List Value} {Ψ : AV → FS × LL → Prop}
  (B : Below A₀ base outer h₀) (F : Fr h₀ L s.heap m) (X : (hd.heap_1 w.params).In h₀) (T : Top topProg loose mean mg mb h₀) (hk : cs.kind = .function) (hdp : dp < n)
  (N : News h₀ L s.heap news) (hx : (x, instObj C dx) ∈ news) (U : UpdF dx o news g) (hD : Dk w.params o fs) (fy : ∀ (hx : ∀ o', (x, instObj C dx) ∈ g o') (hU : ∀ o', UpdF dx o' (g o') g), FY w (LgP (LgS w.params x dx C g hx hU)) n f args (fs, []) Ψ) (ha : ArgsV args vs)
  (ret : ∀ v Ω o' t h' tk nw', Ψ v Ω → Dk w.params o' Ω.1 → Fr h₀ L h' m → News h₀ L h' nw' → LLs (g o') Ω.2 nw' → Q (v.v t) { s with heap := h', toks := tk }) :
  wpAny (model rw_on0267_01.row.prog w) (ktrTop dp un gd cn cs L a ccd cl outer) (call (.ref f) vs) Q E s := by
  obtain ⟨es, hE, rfl⟩ := hD
  have ne := inst_ne N hx (upd_mem U)
  obtain ⟨e, hU⟩ := updF_again U
  refine wpAny_call ((fy (updF_in U hx ne) hU).code B X T hk hdp F N ⟨_, ⟨_, ⟨es, hE, rfl⟩, e⟩, .nil⟩ ha fun s' t v Ω nw' k h F' N' led' => ?_)
  obtain ⟨nw0, ⟨o', h', rfl⟩, L1⟩ := led'
  rw [h.to]
  exact ret v Ω o' t _ _ nw' k h' F' N' L1
noncomputable abbrev LgZ (P : Params) (x dx C : Addr) (o0 : Obj) (own : List (Addr × Obj)) (ne : x ≠ dx) (hO : ∀ p ∈ own, p.1 ≠ dx) : Lg P (FS × Bool) where
  x := x
  dx := dx
  C := C
  Led ω nw := ∃ o, Dk P o ω.1 ∧ (ω.2 = false → o = o0) ∧ nw = (x, instObj C dx) :: (dx, o) :: own
  fs ω := ω.1
  put _ f := (f, true)
  self := fun ω nw ⟨o, h, _, e⟩ => ⟨o, fun o' => (x, instObj C dx) :: (dx, o') :: own, e ▸ .head _, h, e ▸ .tail ne (.head hO), fun o' f' h' => ⟨o', h', (fun z => by cases z), rfl⟩⟩
theorem splitZ {P : Params} {h₀ h : Heap} {L x dx C : Addr} {news : List (Addr × Obj)} {o : Obj} {fs : FS} (N : News h₀ L h news) (hx : (x, instObj C dx) ∈ news) (hdx : (dx, o) ∈ news) (hD : Dk P o fs) {G : Prop}
    (k : ∀ own, x ≠ dx → (∀ p ∈ own, p.1 ≠ dx) → News h₀ L h ((x, instObj C dx) :: (dx, o) :: own) → (∀ p ∈ news, p ∈ (x, instObj C dx) :: (dx, o) :: own) → G) : G := by
  have hne : x ≠ dx := by
    obtain ⟨es, _, rfl⟩ := hD
    exact inst_ne N hx hdx
  have hO : ∀ p ∈ news.filter (fun p => decide (p.1 ≠ x) && decide (p.1 ≠ dx)), p.1 ≠ dx := fun p hp => by
    have := (List.mem_filter.mp hp).2
    simp only [Bool.and_eq_true, decide_eq_true_eq] at this
    exact this.2
  have N1 : News h₀ L h ((x, instObj C dx) :: (dx, o) :: news.filter (fun p => decide (p.1 ≠ x) && decide (p.1 ≠ dx))) := fun p hp => by
    rcases List.mem_cons.mp hp with rfl | hp
    · exact N _ hx
    rcases List.mem_cons.mp hp with rfl | hp
    · exact N _ hdx
    exact N _ (List.mem_filter.mp hp).1
  have sub : ∀ p ∈ news, p ∈ (x, instObj C dx) :: (dx, o) :: news.filter (fun p => decide (p.1 ≠ x) && decide (p.1 ≠ dx)) := fun p hp => by
    by_cases q : p.1 = x
    · have : p = (x, instObj C dx) := Prod.ext q (Option.some.inj ((N _ hp).1.symm.trans (q ▸ (N _ hx).1)))
      exact this ▸ .head _
    by_cases q' : p.1 = dx
    · have : p = (dx, o) := Prod.ext q' (Option.some.inj ((N _ hp).1.symm.trans (q' ▸ (N _ hdx).1)))
      exact this ▸ .tail _ (.head _)
    exact .tail _ (.tail _ (List.mem_filter.mpr ⟨hp, by simp only [ne_eq, q, q', not_false_eq_true, decide_true, Bool.and_self]⟩))
  exact k _ hne hO N1 sub
theorem LLs.tupE {nw0 nw : List (Addr × Obj)} {tp : Addr} {xs : List AV} {ll : LL} {G : Prop} (L : LLs nw0 (.tup tp xs :: ll) nw) (k : ∀ vs, ArgsV xs vs → (∀ q ∈ (tp, tupV vs) :: nw0, q ∈ nw) → G) : G := by
  obtain ⟨os, nw2, le, L2, _, rfl⟩ := L.inv
  cases le with
  | tup av =>
    exact k _ av fun q hq => by
      rcases List.mem_cons.mp hq with rfl | hq
      · exact .head _
      · exact .tail _ (L2.all q hq)
theorem useG {x dx C f : Addr} {o : Obj} {fs : FS} {args : List AV} {vs : List Value} {Ψ : AV → (FS × Bool) × LL → Prop}
  (B : Below A₀ base outer h₀) (F : Fr h₀ L s.heap m) (X : (hd.heap_1 w.params).In h₀) (T : Top topProg loose mean mg mb h₀) (hk : cs.kind = .function) (hdp : dp < n)
  (N : News h₀ L s.heap news) (hx : (x, instObj C dx) ∈ news) (hdx : (dx, o) ∈ news) (hD : Dk w.params o fs)
  (fy : ∀ own ne hO, FY w (LgP (LgZ w.params x dx C o own ne hO)) n f args ((fs, false), []) Ψ) (hΨ : ∀ v Ω, Ψ v Ω → Ω.1 = (fs, false)) (ha : ArgsV args vs)
  (ret : ∀ v ll t h' tk nw' nw0, Ψ v ((fs, false), ll) → LLs nw0 ll nw' → (∀ p ∈ news, p ∈ nw0) → Fr h₀ L h' m → News h₀ L h' nw' → Q (v.v t) { s with heap := h', toks := tk }) :
  wpAny (model rw_on0267_01.row.prog w) (ktrTop dp un gd cn cs L a ccd cl outer) (call (.ref f) vs) Q E s := by
  refine splitZ N hx hdx hD fun own hne hO N1 sub => ?_
  refine wpAny_call ((fy _ hne hO).code B X T hk hdp F N1 ⟨_, ⟨o, hD, fun _ => rfl, rfl⟩, .nil⟩ ha fun s' t y Ω nw' k h2 F2 N2 led => ?_)
  obtain ⟨ω, ll⟩ := Ω
  obtain rfl := hΨ _ _ k
  obtain ⟨nw0, ⟨o', _, e1, rfl⟩, L1⟩ := led
  obtain rfl := e1 rfl
  rw [h2.to]
  exact ret y ll t _ _ nw' _ k L1 sub F2 N2
theorem useF {x dx C f : Addr} {o : Obj} {fs : FS} {args : List AV} {vs : List Value} {v : AV}
  (B : Below A₀ base outer h₀) (F : Fr h₀ L s.heap m) (X : (hd.heap_1 w.params).In h₀) (T : Top topProg loose mean mg mb h₀) (hk : cs.kind = .function) (hdp : dp < n)
  (N : News h₀ L s.heap news) (hx : (x, instObj C dx) ∈ news) (hdx : (dx, o) ∈ news) (hD : Dk w.params o fs)
  (fy : ∀ own ne hO, FY w (LgP (LgZ w.params x dx C o own ne hO)) n f args ((fs, false), []) (fun x Ω => x = v ∧ Ω.1 = (fs, false))) (ha : ArgsV args vs)
  (ret : ∀ t h' tk, Fr h₀ L h' m → News h₀ L h' news → Q (v.v t) { s with heap := h', toks := tk }) :
  wpAny (model rw_on0267_01.row.prog w) (ktrTop dp un gd cn cs L a ccd cl outer) (call (.ref f) vs) Q E s := by
  exact useG B F X T hk hdp N hx hdx hD fy (fun _ _ h => h.2) ha fun y ll t h' tk nw' nw0 k L sub F2 N2 => by
    obtain ⟨rfl, _⟩ := k
    exact ret t h' tk F2 fun p hp => N2 p (L.all p (sub p hp))
end
end
section -- ConRead
variable {w : World} {A₀ : Around} {base h₀ : Heap} {outer : List Env} {L a : Addr} {m : Str → Option Value} {news : List (Addr × Obj)} {g : Obj → List (Addr × Obj)} {s : Shared} {Q E : Value → Shared → Prop} {dp un : Nat} {gd : Option (List Code)} {cn : Str} {cs : Scope} {ccd : Value} {cl : List (Str × Addr)} {loose : List Str} {mean : ExcName → Option Value} {mg mb : Str → Option Value}
theorem kw_13 : True := by
  w_top off
  k_with "bt" => first | with_reducible rfl | with_reducible assumption | exact decide_eq_true (by omega) | exact decide_eq_false (by omega) | exact bq_t (by omega) | exact bq_f (by omega) | exact and_t (by walk_at "bt") (by walk_at "bt") | exact and_f (by walk_at "bt") | exact and_f2 (by walk_at "bt") | exact or_t1 (by walk_at "bt") | exact or_t2 (by walk_at "bt") | exact or_f (by walk_at "bt") (by walk_at "bt") | exact not_t (by walk_at "bt") | exact not_f (by walk_at "bt")
  k_with "ex" => ((with_reducible show EX _ _ _ (Expr.Constant (Const.str _) _ _) _ _); exact EX.cs)
  k_with "exf" => exact EX.lenL (by walk_at "ex") (by walk_at "lm") (by walk_at "sz")
  k_with "lm" => first | exact List.Mem.head _ | exact List.Mem.tail _ (List.Mem.head _) | exact List.Mem.tail _ (List.Mem.tail _ (List.Mem.head _))
  k_with "pk" => first | exact Pk.head | exact Pk.tail Pk.head | exact Pk.tail (Pk.tail Pk.head)
  k_with "mc" => exact EX.app rfl (by walk_at "lm") (by walk_at "ex") (by walk_at "pk") (by walk_at "sz")
  k_with "sx" => ((with_reducible show SX _ _ _ (Stmt.AugAssign (Expr.Name _ _) _ _ _ :: _) _); exact SX.augN rfl (by walk_at "ex") (by first | exact Ip.add | exact Ip.sub) (by walk_at "sx"))
  k_with "sz" => first | omega | (rw [List.length_map]; omega)
  trivial
theorem take_more {oc got : List UInt8} {p : Int} (hq : 0 ≤ p) (hg : got = List.take got.length (List.drop p.toNat oc)) (hlt : p + got.length < oc.length) :
    got ++ [oc.getD (p + (got.length : Int)).toNat 0] = List.take (got.length + 1) (List.drop p.toNat oc) := by
  have e : (p + (got.length : Int)).toNat = p.toNat + got.length := by omega
  have hl : got.length < (List.drop p.toNat oc).length := by rw [List.length_drop]; omega
  rw [List.take_add_one, ← hg, e]
  congr 1
  rw [List.getElem?_drop, List.getD_eq_getElem?_getD, List.getElem?_eq_getElem (by omega)]
  rfl
noncomputable abbrev oAV (u : UInt8) : AV := .int (u.toNat : Nat)
theorem om_snoc {got : List UInt8} {u : UInt8} : got.map oAV ++ [.int ((u.toNat : Nat) : Int)] = (got ++ [u]).map oAV := by rw [List.map_append]; rfl
noncomputable def NX (N : Nat) (f : Addr) (fs : FS) (v : AV) (fs' : FS) : Prop := ∀ w x dx g hx hU, MC w (LgS w.params x dx 226 g hx hU) N f [] fs v fs'
theorem NX.lift {N : Nat} {f : Addr} {fs fs' : FS} {v : AV} (h : NX N f fs v fs') {w : World} {x dx : Addr} {g : Obj → List (Addr × Obj)} {hx : ∀ o', (x, instObj 226 dx) ∈ g o'} {hU : ∀ o', UpdF dx o' (g o') g} {ll : LL} : MC w (LgP (LgS w.params x dx 226 g hx hU)) N f [] (fs, ll) v (fs', ll) :=
  MC.lift (fun g hx hU => h w x dx g hx hU) g hx hU ll
noncomputable abbrev frL (a x : Addr) (n : Str) (k : Int) : FS := [(Str.ofString "found", .val (.ref a)), (n, .int k), (Str.ofString "self", .val (.ref x))]
noncomputable abbrev wdL (fs : FS) (a : Addr) (got : List UInt8) : FS × LL := (fs, [.lst a (got.map oAV)])
noncomputable def RF (oc : List UInt8) (p : Int) (fs : FS) : Prop :=
  ∃ num nm at_ hl ib, fs = fsR num nm true (at_ - if ib then 1 else 0) (laOf hl oc at_) ib oc at_ ∧ 0 ≤ at_ ∧ at_ ≤ (oc.length : Int) ∧ oc.length ≤ 1000 ∧ (ib = true → hl = true) ∧ (hl = true → 1 ≤ at_) ∧ at_ - (if ib then 1 else 0) = p
noncomputable def RE (oc : List UInt8) (fs : FS) : Prop := ∃ num nm pl at_, fs = fsR num nm false pl (.val .none) false oc at_ ∧ 0 ≤ at_ ∧ at_ ≤ (oc.length : Int) ∧ oc.length ≤ 1000
section
variable {P : Params} {o : Obj} {oc : List UInt8} {p at_ : Int} {hl ib : Bool} {fs : FS}
theorem RF.isR (h : RF oc p fs) (hD : Dk P o fs) : ∃ at_ hl ib, IsR P o oc at_ hl ib ∧ at_ - (if ib then 1 else 0) = p := by
  obtain ⟨num, nm, at_, hl, ib, rfl, a, b, c, d, e, f⟩ := h
  exact ⟨at_, hl, ib, ⟨num, nm, hD, a, b, c, d, e⟩, f⟩
theorem RE.isC (h : RE oc fs) (hD : Dk P o fs) : ∃ at_, IsC P o oc at_ := by
  obtain ⟨num, nm, pl, at_, rfl, a, b, c⟩ := h
  exact ⟨at_, num, nm, pl, hD, a, b, c⟩
theorem IsR.rf (h : IsR P o oc at_ hl ib) : ∃ fs, Dk P o fs ∧ RF oc (at_ - if ib then 1 else 0) fs := by
  obtain ⟨num, nm, hD, a, b, c, d, e⟩ := h
  exact ⟨_, hD, num, nm, at_, hl, ib, rfl, a, b, c, d, e, rfl⟩
theorem RF.last {num pl n : Int} {nm : List UInt8} (h1 : 1 ≤ at_) (hat : at_ ≤ (oc.length : Int)) (hoc : oc.length ≤ 1000) (hpl : pl = at_ - if ib then 1 else 0) (hv : n = ((oc.getD (at_ - 1).toNat 0).toNat : Int)) (hp : at_ - (if ib then 1 else 0) = p) : RF oc p (fsR num nm true pl (.int n) ib oc at_) :=
  ⟨num, nm, at_, true, ib, by subst hpl hv; rfl, Int.le_trans (by decide) h1, hat, hoc, fun _ => rfl, fun _ => h1, hp⟩
theorem RF.bd (h : RF oc p fs) : 0 ≤ p ∧ p ≤ (oc.length : Int) ∧ oc.length ≤ 1000 := by
  obtain ⟨num, nm, at_, hl, ib, rfl, a, b, c, d, e, f⟩ := h
  cases ib with
  | true => have := e (d rfl); rw [if_pos rfl] at f; exact ⟨by omega, by omega, c⟩
  | false => rw [show (if false = true then (1 : Int) else 0) = 0 from rfl] at f; exact ⟨by omega, by omega, c⟩
theorem RF.nx (h : RF oc p fs) : fs.lookup (Str.ofString "next") = none ∧ fs.lookup (Str.ofString "back") = none := by
  obtain ⟨num, nm, at_, hl, ib, rfl, _⟩ := h
  exact ⟨rfl, rfl⟩
theorem rf_next {G : Prop} (h : RF oc p fs) (hlt : p < oc.length) (k : ∀ fs' fs'', RF oc (p + 1) fs' → NX 690 97 fs (.int ((oc.getD p.toNat 0).toNat : Int)) fs' → RF oc p fs'' → NX 695 104 fs' (.val .none) fs'' → G) : G := by
  obtain ⟨num, nm, at_, hl, ib, rfl, a, b, c, d, e, f⟩ := h
  subst f
  cases ib with
  | true =>
    obtain rfl := d rfl
    have h1 := e rfl
    exact k _ _ (RF.last (ib := false) h1 b c (show at_ - 1 + 1 = at_ - 0 by omega) rfl (show at_ - 0 = at_ - 1 + 1 by omega)) (fun _ _ _ _ _ _ => mc_nextB) (RF.last (ib := true) h1 b c (show at_ - 1 + 1 - 1 = at_ - 1 by omega) rfl rfl) fun _ _ _ _ _ _ => mc_back0
  | false =>
    have e0 : (if false = true then (1 : Int) else 0) = 0 := rfl
    rw [e0, Int.sub_zero] at hlt k
    exact k _ _ (RF.last (ib := false) (by omega) (by omega) c (show at_ + 1 = at_ + 1 - 0 by omega) rfl (show at_ + 1 - 0 = at_ + 1 by omega)) (fun _ _ _ _ _ _ => by rw [show ((oc.getD at_.toNat 0).toNat : Int) = ((oc.getD (at_ + 1 - 1).toNat 0).toNat : Int) by rw [Int.add_sub_cancel]]; exact mc_next1 a hlt c) (RF.last (ib := true) (by omega) (by omega) c (show at_ + 1 - 1 = at_ + 1 - 1 from rfl) rfl (show at_ + 1 - 1 = at_ by omega)) fun _ _ _ _ _ _ => mc_back0
theorem rf_end {G : Prop} (h : RF oc p fs) (he : (oc.length : Int) ≤ p) (k : ∀ fs', RE oc fs' → NX 690 97 fs (.val .none) fs' → G) : G := by
  obtain ⟨num, nm, at_, hl, ib, rfl, a, b, c, d, e, f⟩ := h
  cases ib with
  | true => have := e (d rfl); rw [if_pos rfl] at f; exfalso; omega
  | false =>
    rw [show (if false = true then (1 : Int) else 0) = 0 from rfl] at f
    exact k _ ⟨num, nm, _, at_, rfl, a, b, c⟩ fun _ _ _ _ _ _ => mc_next2 (by omega) c
end
structure RdI (oc : List UInt8) (p many : Int) (s : FS × List UInt8) : Prop where
  hR : RF oc (p + s.2.length) s.1
  hg : s.2 = (oc.drop p.toNat).take s.2.length
  hm : (s.2.length : Int) ≤ many
theorem rd_all {oc got : List UInt8} {p many : Int} (hg : got = (oc.drop p.toNat).take got.length) (h0 : 0 ≤ p) (he : (oc.length : Int) ≤ p + got.length) (hm : (got.length : Int) ≤ many) : got = (oc.drop p.toNat).take many.toNat := by
  rw [List.take_of_length_le (by rw [List.length_drop]; omega)] at hg ⊢
  exact hg
noncomputable def RdΨ (oc : List UInt8) (p many : Int) (v : AV) (Ω : FS × LL) : Prop := v = .bytes ((oc.drop p.toNat).take many.toNat) ∧ ((p + many ≤ oc.length ∧ RF oc (p + many) Ω.1) ∨ (oc.length < p + many ∧ RE oc Ω.1))
theorem fy_read {w : World} {x dx : Addr} {g : Obj → List (Addr × Obj)} {hx : ∀ o', (x, instObj 226 dx) ∈ g o'} {hU : ∀ o', UpdF dx o' (g o') g} {oc : List UInt8} {p many : Int} {fs : FS} (h : RF oc p fs) (hm0 : 0 ≤ many) (hm1 : many ≤ 2000) :
    FY w (LgP (LgS w.params x dx 226 g hx hU)) 680 118 [.val (.ref x), .int many] (fs, []) (RdΨ oc p many) := by
  refine' FY.of (fun hk bs hdp9 => ?zb) ?z6 ?z7 ?z8 (bind2 (n1 := Str.ofString "self") (n2 := Str.ofString "many") (by intro _ _; kernel_rfl) ?zl ?zm) ?z2 ?z3 ?z4 ?z5
  case z6 => exact rfl
  case z7 => exact rfl
  case z8 => exact rfl
  case zl => exact rfl
  case zm => exact rfl
  case z2 => exact rfl
  case z3 => exact rfl
  case z4 => exact rfl
  case z5 => decide
  obtain ⟨hp0, _, hoc⟩ := h.bd
  refine SX.asgY (EY.lst EXs.nil) fun x1 Ω1 h1 => ?_
  obtain ⟨a, rfl, rfl⟩ := h1
  refine SX.whl (WX.ind (fun _ : FS × List UInt8 => frL a x (Str.ofString "many") many) (fun s => wdL s.1 a s.2) (fun s => (many - s.2.length).toNat) (RdI oc p many) (fs, []) ⟨by rw [show p + (([] : List UInt8).length : Int) = p from Int.add_zero p]; exact h, rfl, hm0⟩ (.cons rfl (.cons rfl (.cons rfl .nil))) rfl ?_)
  rintro ⟨fs1, got⟩ hI ih
  obtain ⟨hR, hg, hm⟩ := hI
  dsimp only at hR hg hm ih ⊢
  have hgm : (got.map oAV).length ≤ 10000 := by rw [List.length_map]; omega
  have hd9 : bs.dp < 690 := Nat.lt_of_lt_of_le hdp9 (Nat.le_of_ble_eq_true rfl)
  by_cases hlt : (got.length : Int) < many
  · by_cases hend : p + got.length < (oc.length : Int)
    · refine rf_next hR hend fun fs2 _ hR2 mc _ _ => ?_
      exact WX.t (TX.cast (TX.cmp (EX.lenL (EX.nm rfl) (.head _) hgm) (EX.nm rfl) Cm.lt) (decide_eq_true (by rw [List.length_map]; omega)))
        (SX.ofN (SX.asg (EX.meth0 rfl mkR_next mc.lift hd9 hR.nx.1) (SX.ifF (TX.cmp (EX.nm rfl) EX.cn Cm.isIN) SX.nil (SX.exp (EX.app rfl (.head _) (EX.nm rfl) .head hgm) SX.nil)))
          (ih (fs2, got ++ [_]) _ _ ⟨by rw [List.length_append, List.length_singleton]; rw [Int.add_assoc] at hR2; exact hR2, by rw [List.length_append, List.length_singleton]; exact take_more hp0 hg hend, by rw [List.length_append, List.length_singleton]; omega⟩ (by dsimp only; rw [List.length_append, List.length_singleton]; omega) (by exact .cons rfl (.cons rfl (.cons rfl .nil))) (congrArg (fun z => (fs2, [LE.lst a z])) om_snoc)))
    · refine rf_end hR (by omega) fun fs2 hE mc => ?_
      exact WX.t (TX.cast (TX.cmp (EX.lenL (EX.nm rfl) (.head _) hgm) (EX.nm rfl) Cm.lt) (decide_eq_true (by rw [List.length_map]; omega)))
        (SX.asg (EX.meth0 rfl mkR_next mc.lift hd9 hR.nx.1) (SX.ifP (q := true) (TX.cmp (EX.nm rfl) EX.cn Cm.isNN) (SX.brk (SX.ofR (SX.ret (EX.bytesL (EX.nm rfl) (.head _) (by omega))) fun _ => ⟨congrArg AV.bytes (rd_all hg hp0 (by omega) hm), .inr ⟨by omega, hE⟩⟩))))
  · refine WX.f (TX.cast (TX.cmp (EX.lenL (EX.nm rfl) (.head _) hgm) (EX.nm rfl) Cm.lt) (decide_eq_false (by rw [List.length_map]; omega))) ?_
    have e : (got.length : Int) = many := by omega
    exact SX.ofR (SX.ret (EX.bytesL (EX.nm rfl) (.head _) (by omega))) fun _ => ⟨congrArg AV.bytes (by rw [hg, show got.length = many.toNat by omega]), .inl ⟨by have := hR.bd; omega, by rw [← e]; exact hR⟩⟩
theorem read_RL {x dx : Addr}
  {o : Obj} {oc : List UInt8} {at_ p : Int} {hl ib : Bool} {many : Int} {tm : Tok}
  (B : Below A₀ base outer h₀) (F : Fr h₀ L s.heap m) (X : (hd.heap_1 w.params).In h₀) (T : Top topProg loose mean mg mb h₀) (hk : cs.kind = .function) (hdp : dp < 590) (hun : un < 900)
  (N : News h₀ L s.heap news) (hx : (x, instObj 226 dx) ∈ news) (U : UpdF dx o news g) (ho : IsR w.params o oc at_ hl ib) (hp : p = at_ - (if ib then 1 else 0)) (hm0 : 0 ≤ many) (hm1 : many ≤ 2000)
  (ret1 : p + many ≤ oc.length → ∀ o' t h' tk at' hl' ib', IsR w.params o' oc at' hl' ib' → p + many = at' - (if ib' then 1 else 0) → Fr h₀ L h' m → News h₀ L h' (g o') →
    Q (.bytes ((oc.drop p.toNat).take many.toNat).toArray t) { s with heap := h', toks := tk })
  (ret2 : oc.length < p + many → ∀ o' t h' tk at', IsC w.params o' oc at' → Fr h₀ L h' m → News h₀ L h' (g o') →
    Q (.bytes ((oc.drop p.toNat).take many.toNat).toArray t) { s with heap := h', toks := tk }) :
  wpAny (model rw_on0267_01.row.prog w) (ktrTop dp un gd cn cs L a ccd cl outer) (call (.ref 118) [.ref x, .int many tm]) Q E s := by
  obtain ⟨fs, hD, hF⟩ := ho.rf
  rw [← hp] at hF
  refine useY B F X T hk (Nat.lt_of_lt_of_le hdp (by decide)) N hx U hD (fun _ _ => fy_read hF hm0 hm1) (.cons (a := .val (.ref x)) default (.cons (a := .int many) tm .nil)) fun v Ω o' t h' tk nw' k hD' F' N' L' => ?_
  obtain ⟨rfl, ⟨h1, h2⟩ | ⟨h1, h2⟩⟩ := k
  · obtain ⟨at', hl', ib', h3, h4⟩ := h2.isR hD'
    exact ret1 h1 o' t h' tk at' hl' ib' h3 h4.symm F' fun p hp => N' p (L'.all p hp)
  · obtain ⟨at', h3⟩ := h2.isC hD'
    exact ret2 h1 o' t h' tk at' h3 F' fun p hp => N' p (L'.all p hp)
end
section -- ConLine
variable {w : World} {A₀ : Around} {base h₀ : Heap} {outer : List Env} {L a : Addr} {m : Str → Option Value} {news : List (Addr × Obj)} {g : Obj → List (Addr × Obj)} {s : Shared} {Q E : Value → Shared → Prop} {dp un : Nat} {gd : Option (List Code)} {cn : Str} {cs : Scope} {ccd : Value} {cl : List (Str × Addr)} {loose : List Str} {mean : ExcName → Option Value} {mg mb : Str → Option Value}
noncomputable def rowOf (oc : List UInt8) (p : Nat) : List UInt8 := (oc.drop p).takeWhile (fun u => u != 10 && u != 13)
noncomputable def endOf (oc : List UInt8) (p : Nat) : Nat := p + (rowOf oc p).length
noncomputable def behindOf (oc : List UInt8) (p : Nat) : Nat := endOf oc p + (if oc.getD (endOf oc p) 0 = 13 ∧ oc.getD (endOf oc p + 1) 0 = 10 then 2 else 1)
theorem behind_1 {oc : List UInt8} {p : Nat} (h : ¬ (oc.getD (endOf oc p) 0 = 13 ∧ oc.getD (endOf oc p + 1) 0 = 10)) : behindOf oc p = endOf oc p + 1 := by
  unfold behindOf; rw [if_neg h]
theorem behind_2 {oc : List UInt8} {p : Nat} (h : oc.getD (endOf oc p) 0 = 13 ∧ oc.getD (endOf oc p + 1) 0 = 10) : behindOf oc p = endOf oc p + 2 := by
  unfold behindOf; rw [if_pos h]
theorem drop_split {oc got : List UInt8} {p : Nat} (hg : got = List.take got.length (List.drop p oc)) : List.drop p oc = got ++ List.drop (p + got.length) oc := by
  conv => lhs; rw [← List.take_append_drop got.length (List.drop p oc)]
  rw [← hg, List.drop_drop]
theorem row_split {got rest : List UInt8} (hn : ∀ u ∈ got, u ≠ 10 ∧ u ≠ 13) : (got ++ rest).takeWhile (fun u => u != 10 && u != 13) = got ++ rest.takeWhile (fun u => u != 10 && u != 13) := by
  induction got with
  | nil => rfl
  | cons a r ih =>
    have h := hn a (.head _)
    simp only [List.cons_append, List.takeWhile_cons]
    rw [if_pos (by simp [h.1, h.2]), ih fun u hu => hn u (.tail _ hu)]
theorem row_end {oc got : List UInt8} {p : Int} (hq : 0 ≤ p) (hg : got = List.take got.length (List.drop p.toNat oc)) (hn : ∀ u ∈ got, u ≠ 10 ∧ u ≠ 13) (he : p + got.length = oc.length) :
    rowOf oc p.toNat = got ∧ (endOf oc p.toNat : Int) = p + got.length := by
  have h : rowOf oc p.toNat = got := by
    unfold rowOf
    rw [drop_split hg, row_split hn, List.drop_eq_nil_of_le (by omega)]
    simp
  refine ⟨h, ?_⟩
  unfold endOf
  rw [h]
  omega
theorem row_at {oc got : List UInt8} {p : Int} (hq : 0 ≤ p) (hg : got = List.take got.length (List.drop p.toNat oc)) (hn : ∀ u ∈ got, u ≠ 10 ∧ u ≠ 13) (hlt : p + got.length < oc.length)
    (hu : ((oc.getD (p + (got.length : Int)).toNat 0).toNat : Int) = 10 ∨ ((oc.getD (p + (got.length : Int)).toNat 0).toNat : Int) = 13) :
    rowOf oc p.toNat = got ∧ endOf oc p.toNat = (p + (got.length : Int)).toNat ∧ (endOf oc p.toNat : Int) = p + got.length := by
  have h : rowOf oc p.toNat = got := by
    unfold rowOf
    rw [drop_split hg, row_split hn, List.drop_eq_getElem_cons (by omega), List.takeWhile_cons, if_neg, List.append_nil]
    have e : oc[p.toNat + got.length]'(by omega) = oc.getD (p + (got.length : Int)).toNat 0 := by
      rw [show (p + (got.length : Int)).toNat = p.toNat + got.length by omega, List.getD_eq_getElem?_getD, List.getElem?_eq_getElem (by omega)]
      rfl
    rw [e]
    generalize oc.getD (p + (got.length : Int)).toNat 0 = u at hu
    rcases hu with hu | hu
    · obtain rfl : u = 10 := UInt8.toNat_inj.mp (by simpa using Int.ofNat.inj hu)
      decide
    · obtain rfl : u = 13 := UInt8.toNat_inj.mp (by simpa using Int.ofNat.inj hu)
      decide
  have h2 : (endOf oc p.toNat : Int) = p + got.length := by
    unfold endOf
    rw [h]
    omega
  exact ⟨h, by omega, h2⟩
theorem row_more {oc got : List UInt8} {p : Int} (hq : 0 ≤ p) (hg : got = List.take got.length (List.drop p.toNat oc)) (hn : ∀ u ∈ got, u ≠ 10 ∧ u ≠ 13) (hlt : p + got.length < oc.length)
    (hu1 : ((oc.getD (p + (got.length : Int)).toNat 0).toNat : Int) ≠ 10) (hu2 : ((oc.getD (p + (got.length : Int)).toNat 0).toNat : Int) ≠ 13) :
    got.length < (rowOf oc p.toNat).length := by
  unfold rowOf
  have e : oc[p.toNat + got.length]'(by omega) = oc.getD (p + (got.length : Int)).toNat 0 := by
    rw [show (p + (got.length : Int)).toNat = p.toNat + got.length by omega, List.getD_eq_getElem?_getD, List.getElem?_eq_getElem (by omega)]
    rfl
  rw [drop_split hg, row_split hn, List.drop_eq_getElem_cons (by omega), List.takeWhile_cons, if_pos]
  · simp
  · rw [e]
    generalize oc.getD (p + (got.length : Int)).toNat 0 = u at hu1 hu2
    simp only [Bool.and_eq_true, bne_iff_ne, ne_eq]
    exact ⟨fun h => hu1 (by rw [h]; rfl), fun h => hu2 (by rw [h]; rfl)⟩
theorem raisedSub {base G : Heap} {l : List Env} {e de : Addr} {n n' : List (Addr × Obj)} {h : Heap} (R : RaisedE base G l e de n h) (hs : ∀ q, q ∈ n' → q ∈ n) : RaisedE base G l e de n' h := by
  obtain ⟨B, h1, h2, h3, h4⟩ := R
  exact ⟨B, h1, h2, fun q hq => h3 q (hs q hq), h4⟩
theorem mkR_back {P : Params} : MOk (hd.heap_1 P) 226 (Str.ofString "back") 104 := ⟨cgR.hg, by kernel_rfl, by kernel_rfl, by kernel_rfl⟩
theorem TX.ct {W : Type} {c : Cx W} {l : FS} {ω : W} {q : Bool} {kk : Nat} {pos : Pos} : TX c l ω (.Constant (.bool q) kk pos) q ω := .mk fun s Q E whole S H hw => by
  subst hw
  exact isTrue_plain (EX.ct.run s _ E S fun s1 t h1 S1 => wpAny_truthy_bool (H s1 h1 S1))
noncomputable def LnR (oc : List UInt8) (p : Nat) (fs : FS) (b : Bool) : Prop :=
  (b = true ∧ endOf oc p < oc.length ∧ (oc.getD (endOf oc p) 0 = 13 → endOf oc p + 1 < oc.length) ∧ RF oc (behindOf oc p) fs) ∨
  (b = true ∧ endOf oc p + 1 = oc.length ∧ oc.getD (endOf oc p) 0 = 13 ∧ RE oc fs) ∨ (b = false ∧ endOf oc p = oc.length ∧ RE oc fs)
noncomputable def LnΨ (oc : List UInt8) (p : Nat) (v : AV) (Ω : FS × LL) : Prop := ∃ tp ll b, v = .val (.ref tp) ∧ Ω.2 = .tup tp [.bytes (rowOf oc p), .val (.bool b)] :: ll ∧ LnR oc p Ω.1 b
structure LnI (oc : List UInt8) (p limit : Int) (s : FS × List UInt8) : Prop where
  hR : RF oc (p + s.2.length) s.1
  hg : s.2 = (oc.drop p.toNat).take s.2.length
  hm : (s.2.length : Int) ≤ limit
  hn : ∀ u ∈ s.2, u ≠ 10 ∧ u ≠ 13
theorem u8_int {a : UInt8} {k : UInt8} (h : ((a.toNat : Nat) : Int) = (k.toNat : Nat)) : a = k := UInt8.toNat_inj.mp (Int.ofNat.inj h)
theorem LnI.more {oc got : List UInt8} {p limit : Int} {fs fs' : FS} {u : UInt8} (h : LnI oc p limit (fs, got)) (hp : 0 ≤ p) (hlt : p + got.length < oc.length) (hl : (got.length : Int) < limit) (hu : oc.getD (p + (got.length : Int)).toNat 0 = u) (h1 : u ≠ 10) (h2 : u ≠ 13) (hR : RF oc (p + got.length + 1) fs') : LnI oc p limit (fs', got ++ [u]) := by
  have e : ((got ++ [u]).length) = got.length + 1 := by rw [List.length_append, List.length_singleton]
  refine ⟨by dsimp only; rw [e, show p + ((got.length + 1 : Nat) : Int) = p + got.length + 1 by omega]; exact hR, by dsimp only; rw [e, ← hu]; exact take_more hp h.hg hlt, by dsimp only; rw [e]; omega, fun v hv => ?_⟩
  rcases List.mem_append.mp hv with hv | hv
  · exact h.hn v hv
  · rw [List.mem_singleton.mp hv]; exact ⟨h1, h2⟩
theorem fy_line {w : World} {x dx : Addr} {g : Obj → List (Addr × Obj)} {hx : ∀ o', (x, instObj 226 dx) ∈ g o'} {hU : ∀ o', UpdF dx o' (g o') g} {oc : List UInt8} {p limit : Int} {fs : FS} (h : RF oc p fs) (hm0 : 0 ≤ limit) (hm1 : limit ≤ 2000) (hrow : ((rowOf oc p.toNat).length : Int) ≤ limit) :
    FY w (LgP (LgS w.params x dx 226 g hx hU)) 680 125 [.val (.ref x), .int limit] (fs, []) (LnΨ oc p.toNat) := by
  refine' FY.of (fun hk bs hdp9 => ?zb) ?z6 ?z7 ?z8 (bind2 (n1 := Str.ofString "self") (n2 := Str.ofString "limit") (by intro _ _; kernel_rfl) ?zl ?zm) ?z2 ?z3 ?z4 ?z5
  case z6 => exact rfl
  case z7 => exact rfl
  case z8 => exact rfl
  case zl => exact rfl
  case zm => exact rfl
  case z2 => exact rfl
  case z3 => exact rfl
  case z4 => exact rfl
  case z5 => decide
  obtain ⟨hp0, _, hoc⟩ := h.bd
  have fin : ∀ {fs' : FS} {got : List UInt8} {b : Bool} {ll : LL}, rowOf oc p.toNat = got → LnR oc p.toNat fs' b → ∀ (v : AV) (Ω : FS × LL), (∃ a, v = .val (.ref a) ∧ Ω = (fs', .tup a [.bytes got, .val (.bool b)] :: ll)) → LnΨ oc p.toNat v Ω := by
    rintro fs' got b ll rfl hL v Ω ⟨a, rfl, rfl⟩
    exact ⟨a, ll, b, rfl, rfl, hL⟩
  refine SX.asgY (EY.lst EXs.nil) fun x1 Ω1 h1 => ?_
  obtain ⟨a, rfl, rfl⟩ := h1
  refine SX.whl (WX.ind (fun _ : FS × List UInt8 => frL a x (Str.ofString "limit") limit) (fun s => wdL s.1 a s.2) (fun s => oc.length + 1 - s.2.length) (LnI oc p limit) (fs, []) ⟨by rw [show p + (([] : List UInt8).length : Int) = p from Int.add_zero p]; exact h, rfl, hm0, fun _ h => nomatch h⟩ (.cons rfl (.cons rfl (.cons rfl .nil))) rfl ?_)
  rintro ⟨fs1, got⟩ hI ih
  have hI' := hI
  obtain ⟨hR, hg, hm, hn⟩ := hI'
  dsimp only at hR hg hm hn ih ⊢
  have hd9 : bs.dp < 690 := Nat.lt_of_lt_of_le hdp9 (Nat.le_of_ble_eq_true rfl)
  have hb1 := hR.bd
  have hgz : got.length ≤ 10000 := by omega
  have hgm : (got.map oAV).length ≤ 10000 := by rw [List.length_map]; exact hgz
  by_cases hend : p + got.length < (oc.length : Int)
  · refine rf_next hR hend fun fs2 _ hR2 mc _ _ => ?_
    generalize hu : oc.getD (p + (got.length : Int)).toNat 0 = u at mc
    by_cases h10 : u = 10
    · subst h10
      obtain ⟨e1, e2, e3⟩ := row_at hp0 hg hn hend (.inl (by rw [hu]; rfl))
      rw [← e2] at hu
      exact WX.t TX.ct (SX.asg (EX.meth0 rfl mkR_next mc.lift hd9 hR.nx.1) (SX.ifF (TX.cmp (EX.nm rfl) EX.cn Cm.isIN) SX.nil (SX.ifP (q := true) (TX.cast (TX.cmp (EX.nm rfl) (EX.globI (k := 10) (tk9 := 196) (by kernel_rfl)) Cm.eq) rfl)
        (SX.retY (EY.tup (EXs.cons (EX.bytesL (EX.nm rfl) (.head _) hgz) (EXs.cons EX.ct EXs.nil))) fun v Ω k => fin e1 (.inl ⟨rfl, by omega, (fun z => by rw [hu] at z; cases z), by rw [behind_1 (fun z => by rw [hu] at z; cases z.1), show ((endOf oc p.toNat + 1 : Nat) : Int) = p + got.length + 1 by omega]; exact hR2⟩) v Ω k))))
    · by_cases h13 : u = 13
      · subst h13
        obtain ⟨e1, e2, e3⟩ := row_at hp0 hg hn hend (.inr (by rw [hu]; rfl))
        rw [← e2] at hu
        by_cases hend2 : p + got.length + 1 < (oc.length : Int)
        · refine rf_next hR2 hend2 fun fs4 fs5 hR4 mc4 hR5 mcb5 => ?_
          rw [show (p + got.length + 1).toNat = endOf oc p.toNat + 1 by omega] at mc4
          generalize hu2 : oc.getD (endOf oc p.toNat + 1) 0 = u2 at mc4
          by_cases hx2 : u2 = 10
          · subst hx2
            exact WX.t TX.ct (SX.asg (EX.meth0 rfl mkR_next mc.lift hd9 hR.nx.1) (SX.ifF (TX.cmp (EX.nm rfl) EX.cn Cm.isIN) SX.nil (SX.ifF (TX.cast (TX.cmp (EX.nm rfl) (EX.globI (k := 10) (tk9 := 196) (by kernel_rfl)) Cm.eq) (bq_f (fun z => h10 (u8_int z)))) SX.nil (SX.ifP (q := true) (TX.cast (TX.cmp (EX.nm rfl) (EX.globI (k := 13) (tk9 := 198) (by kernel_rfl)) Cm.eq) rfl) (SX.asg (EX.meth0 rfl mkR_next mc4.lift hd9 hR2.nx.1) (SX.ifF (TX.cast (TX.and (TX.cmp (EX.nm rfl) EX.cn Cm.notIN) (TX.cmp (EX.nm rfl) (EX.globI (k := 10) (tk9 := 196) (by kernel_rfl)) Cm.ne)) rfl) SX.nil (SX.retY (EY.tup (EXs.cons (EX.bytesL (EX.nm rfl) (.head _) hgz) (EXs.cons EX.ct EXs.nil))) fun v Ω k => fin e1 (.inl ⟨rfl, by omega, fun _ => by omega, by rw [behind_2 ⟨hu, hu2⟩, show ((endOf oc p.toNat + 2 : Nat) : Int) = p + got.length + 1 + 1 by omega]; exact hR4⟩) v Ω k)))))))
          · exact WX.t TX.ct (SX.asg (EX.meth0 rfl mkR_next mc.lift hd9 hR.nx.1) (SX.ifF (TX.cmp (EX.nm rfl) EX.cn Cm.isIN) SX.nil (SX.ifF (TX.cast (TX.cmp (EX.nm rfl) (EX.globI (k := 10) (tk9 := 196) (by kernel_rfl)) Cm.eq) (bq_f (fun z => h10 (u8_int z)))) SX.nil (SX.ifP (q := true) (TX.cast (TX.cmp (EX.nm rfl) (EX.globI (k := 13) (tk9 := 198) (by kernel_rfl)) Cm.eq) rfl) (SX.asg (EX.meth0 rfl mkR_next mc4.lift hd9 hR2.nx.1) (SX.ifT (TX.cast (TX.and (TX.cmp (EX.nm rfl) EX.cn Cm.notIN) (TX.cmp (EX.nm rfl) (EX.globI (k := 10) (tk9 := 196) (by kernel_rfl)) Cm.ne)) (and_t rfl (bne_iff_ne.mpr fun z => hx2 (u8_int z)))) (SX.exp (EX.meth0 rfl mkR_back mcb5.lift (Nat.lt_of_lt_of_le hdp9 (Nat.le_of_ble_eq_true rfl)) hR4.nx.2) SX.nil) (SX.retY (EY.tup (EXs.cons (EX.bytesL (EX.nm rfl) (.head _) hgz) (EXs.cons EX.ct EXs.nil))) fun v Ω k => fin e1 (.inl ⟨rfl, by omega, fun _ => by omega, by rw [behind_1 (fun z => hx2 (hu2.symm.trans z.2)), show ((endOf oc p.toNat + 1 : Nat) : Int) = p + got.length + 1 by omega]; exact hR5⟩) v Ω k)))))))
        · refine rf_end hR2 (by omega) fun fs4 hE4 mc4 => ?_
          exact WX.t TX.ct (SX.asg (EX.meth0 rfl mkR_next mc.lift hd9 hR.nx.1) (SX.ifF (TX.cmp (EX.nm rfl) EX.cn Cm.isIN) SX.nil (SX.ifF (TX.cast (TX.cmp (EX.nm rfl) (EX.globI (k := 10) (tk9 := 196) (by kernel_rfl)) Cm.eq) (bq_f (fun z => h10 (u8_int z)))) SX.nil (SX.ifP (q := true) (TX.cast (TX.cmp (EX.nm rfl) (EX.globI (k := 13) (tk9 := 198) (by kernel_rfl)) Cm.eq) rfl) (SX.asg (EX.meth0 rfl mkR_next mc4.lift hd9 hR2.nx.1) (SX.ifF (TX.and1 (TX.cmp (EX.nm rfl) EX.cn Cm.notNN)) SX.nil (SX.retY (EY.tup (EXs.cons (EX.bytesL (EX.nm rfl) (.head _) hgz) (EXs.cons EX.ct EXs.nil))) fun v Ω k => fin e1 (.inr (.inl ⟨rfl, by omega, hu, hE4⟩)) v Ω k)))))))
      · have hm2 := row_more hp0 hg hn hend (fun z => h10 (hu.symm.trans (u8_int z))) (fun z => h13 (hu.symm.trans (u8_int z)))
        exact WX.t TX.ct (SX.ofN (SX.asg (EX.meth0 rfl mkR_next mc.lift hd9 hR.nx.1) (SX.ifF (TX.cmp (EX.nm rfl) EX.cn Cm.isIN) SX.nil (SX.ifF (TX.cast (TX.cmp (EX.nm rfl) (EX.globI (k := 10) (tk9 := 196) (by kernel_rfl)) Cm.eq) (bq_f (fun z => h10 (u8_int z)))) SX.nil (SX.ifF (TX.cast (TX.cmp (EX.nm rfl) (EX.globI (k := 13) (tk9 := 198) (by kernel_rfl)) Cm.eq) (bq_f (fun z => h13 (u8_int z)))) SX.nil (SX.ifF (TX.cast (TX.cmp (EX.lenL (EX.nm rfl) (.head _) hgm) (EX.nm rfl) Cm.geI) (decide_eq_false (by rw [List.length_map]; omega))) SX.nil (SX.exp (EX.app rfl (.head _) (EX.nm rfl) .head hgm) SX.nil))))))
          (ih (fs2, got ++ [u]) _ _ (hI.more hp0 hend (by omega) hu h10 h13 hR2) (by dsimp only; rw [List.length_append, List.length_singleton]; omega) (by exact .cons rfl (.cons rfl (.cons rfl .nil))) (congrArg (fun z => (fs2, [LE.lst a z])) om_snoc)))
  · refine rf_end hR (by omega) fun fs2 hE mc => ?_
    obtain ⟨e1, e2⟩ := row_end hp0 hg hn (by omega)
    exact WX.t TX.ct (SX.asg (EX.meth0 rfl mkR_next mc.lift hd9 hR.nx.1) (SX.ifP (q := true) (TX.cmp (EX.nm rfl) EX.cn Cm.isNN)
      (SX.retY (EY.tup (EXs.cons (EX.bytesL (EX.nm rfl) (.head _) hgz) (EXs.cons EX.ct EXs.nil))) fun v Ω k => fin e1 (.inr (.inr ⟨rfl, by omega, hE⟩)) v Ω k)))
theorem rf_walk {oc : List UInt8} {p : Int} {fs : FS} (h : RF oc p fs) : ∀ n : Nat, p + n ≤ oc.length → ∃ f : Nat → FS, f 0 = fs ∧ (∀ k, k ≤ n → RF oc (p + k) (f k)) ∧ ∀ k, k < n → NX 690 97 (f k) (.int ((oc.getD (p + (k : Int)).toNat 0).toNat : Int)) (f (k + 1))
  | 0, _ => ⟨fun _ => fs, rfl, fun k hk => by rw [Nat.le_zero.mp hk]; exact (Int.add_zero p).symm ▸ h, fun k hk => nomatch hk⟩
  | n + 1, hn => by
    obtain ⟨f, h0, h1, h2⟩ := rf_walk h n (by omega)
    refine rf_next (h1 n (Nat.le_refl _)) (by omega) fun fs' _ a b _ _ => ?_
    refine ⟨fun k => if k ≤ n then f k else fs', (if_pos (Nat.zero_le _)).trans h0, fun k hk => ?_, fun k hk => ?_⟩ <;> dsimp only
    · by_cases q : k ≤ n
      · rw [if_pos q]; exact h1 k q
      · rw [if_neg q, show k = n + 1 by omega]; exact Int.add_assoc p n 1 ▸ a
    · rw [if_pos (Nat.le_of_lt_succ hk)]
      by_cases q : k + 1 ≤ n
      · rw [if_pos q]; exact h2 k q
      · rw [if_neg q, show k = n by omega]; exact b
theorem row_in {oc got : List UInt8} {p : Int} (hq : 0 ≤ p) (hg : got = List.take got.length (List.drop p.toNat oc)) (hn : ∀ u ∈ got, u ≠ 10 ∧ u ≠ 13) (hl : got.length < (rowOf oc p.toNat).length) : p + got.length < oc.length ∧ oc.getD (p + (got.length : Int)).toNat 0 ≠ 10 ∧ oc.getD (p + (got.length : Int)).toNat 0 ≠ 13 := by
  have hlt : p + got.length < oc.length := by
    refine Int.not_le.mp fun z => ?_
    have hz := (List.takeWhile_sublist (p := fun u : UInt8 => u != 10 && u != 13) (l := oc.drop p.toNat)).length_le
    rw [List.length_drop] at hz
    have : (rowOf oc p.toNat).length ≤ oc.length - p.toNat := hz
    omega
  refine ⟨hlt, fun z => ?_, fun z => ?_⟩
  · rw [(row_at hq hg hn hlt (.inl (by rw [z]; rfl))).1] at hl; exact absurd hl (Nat.lt_irrefl _)
  · rw [(row_at hq hg hn hlt (.inr (by rw [z]; rfl))).1] at hl; exact absurd hl (Nat.lt_irrefl _)
theorem rc_line {w : World} {x dx : Addr} {g : Obj → List (Addr × Obj)} {hx : ∀ o', (x, instObj 226 dx) ∈ g o'} {hU : ∀ o', UpdF dx o' (g o') g} {oc : List UInt8} {p : Int} {limit : Nat} {f : Nat → FS} (h1 : ∀ k, k ≤ limit + 1 → RF oc (p + k) (f k)) (h2 : ∀ k, k < limit + 1 → NX 690 97 (f k) (.int ((oc.getD (p + (k : Int)).toNat 0).toNat : Int)) (f (k + 1))) (hm1 : limit ≤ 2000) (hrow : limit < (rowOf oc p.toNat).length) :
    RC w (LgS w.params x dx 226 g hx hU) 680 125 [.int (limit : Nat)] (f 0) [114, 97, 110, 103, 101, 99, 104, 101, 99, 107] (f (limit + 1)) := by
  refine RC.unP ?_
  refine' RC.of1 (Str.ofString "limit") (fun hk bs hdp9 => ?zb) ?z6 ?z7 ?z8 ?z9 ?zl ?zm ?z2 ?z3 ?z4 ?z5
  case z6 => exact rfl
  case z7 => exact rfl
  case z8 => exact rfl
  case z9 => intro _ _; kernel_rfl
  case zl => exact rfl
  case zm => exact rfl
  case z2 => exact rfl
  case z3 => exact rfl
  case z4 => exact rfl
  case z5 => decide
  have h0 := (h1 0 (Nat.zero_le _)).bd
  have hp0 : 0 ≤ p := by have := h0.1; omega
  refine RX.asgY (EY.lst EXs.nil) fun x1 Ω1 h9 => ?_
  obtain ⟨a, rfl, rfl⟩ := h9
  refine RX.whl (WR.ind (fun _ : List UInt8 => frL a x (Str.ofString "limit") (limit : Nat)) (fun s => wdL (f s.length) a s) (fun s => oc.length + 1 - s.length) (fun s => LnI oc p limit (f s.length, s)) [] ⟨h1 0 (Nat.zero_le _), rfl, Int.natCast_nonneg _, fun _ h => nomatch h⟩ (.cons rfl (.cons rfl (.cons rfl .nil))) rfl ?_)
  intro got hI ih
  obtain ⟨hR, hg, hm, hn⟩ := id hI
  dsimp only at hR hg hm hn ih ⊢
  have hd9 : bs.dp < 690 := Nat.lt_of_lt_of_le hdp9 (Nat.le_of_ble_eq_true rfl)
  obtain ⟨hlt, n10, n13⟩ := row_in hp0 hg hn (by omega)
  have mc := h2 got.length (by omega)
  have hgm : (got.map oAV).length ≤ 10000 := by rw [List.length_map]; omega
  have hR2 := h1 (got.length + 1) (by omega)
  generalize hu : oc.getD (p + (got.length : Int)).toNat 0 = u at mc n10 n13
  by_cases hl : got.length < limit
  · exact WR.t TX.ct (SX.ofN (SX.asg (EX.meth0 rfl mkR_next mc.lift hd9 hR.nx.1) (SX.ifF (TX.cmp (EX.nm rfl) EX.cn Cm.isIN) SX.nil (SX.ifF (TX.cast (TX.cmp (EX.nm rfl) (EX.globI (k := 10) (tk9 := 196) (by kernel_rfl)) Cm.eq) (bq_f (fun z => n10 (u8_int z)))) SX.nil (SX.ifF (TX.cast (TX.cmp (EX.nm rfl) (EX.globI (k := 13) (tk9 := 198) (by kernel_rfl)) Cm.eq) (bq_f (fun z => n13 (u8_int z)))) SX.nil (SX.ifF (TX.cast (TX.cmp (EX.lenL (EX.nm rfl) (.head _) hgm) (EX.nm rfl) Cm.geI) (decide_eq_false (by rw [List.length_map]; omega))) SX.nil (SX.exp (EX.app rfl (.head _) (EX.nm rfl) .head hgm) SX.nil))))))
      ⟨rfl, ih (got ++ [u]) _ _ (hI.more hp0 hlt (by omega) hu n10 n13 (by rw [List.length_append]; exact Int.add_assoc p got.length 1 ▸ hR2)) (by rw [List.length_append, List.length_singleton]; omega) (by exact .cons rfl (.cons rfl (.cons rfl .nil))) (by rw [List.length_append]; exact congrArg (fun z => (f (got.length + 1), [LE.lst a z])) om_snoc)⟩)
  · have e : limit = got.length := by omega
    exact WR.r TX.ct (RX.asg (EX.meth0 rfl mkR_next mc.lift hd9 hR.nx.1) (RX.ifE (TX.cmp (EX.nm rfl) EX.cn Cm.isIN) SX.nil (RX.ifE (TX.cast (TX.cmp (EX.nm rfl) (EX.globI (k := 10) (tk9 := 196) (by kernel_rfl)) Cm.eq) (bq_f (fun z => n10 (u8_int z)))) SX.nil (RX.ifE (TX.cast (TX.cmp (EX.nm rfl) (EX.globI (k := 13) (tk9 := 198) (by kernel_rfl)) Cm.eq) (bq_f (fun z => n13 (u8_int z)))) SX.nil (RX.ifT (TX.cast (TX.cmp (EX.lenL (EX.nm rfl) (.head _) hgm) (EX.nm rfl) Cm.geI) (decide_eq_true (by rw [List.length_map]; omega))) (e ▸ RX.wk Sb.nil (RX.raise (by kernel_rfl) (by kernel_rfl) EX.cb (Nat.lt_of_lt_of_le hdp9 (Nat.le_of_ble_eq_true rfl)))))))))
theorem line_RL {x dx : Addr}
  {o : Obj} {oc : List UInt8} {at_ p : Int} {hl ib : Bool} {limit : Int} {tm : Tok}
  (B : Below A₀ base outer h₀) (F : Fr h₀ L s.heap m) (X : (hd.heap_1 w.params).In h₀) (T : Top topProg loose mean mg mb h₀) (hk : cs.kind = .function) (hdp : dp < 590) (hun : un < 900)
  (N : News h₀ L s.heap news) (hx : (x, instObj 226 dx) ∈ news) (U : UpdF dx o news g) (ho : IsR w.params o oc at_ hl ib) (hp : p = at_ - (if ib then 1 else 0)) (hm0 : 0 ≤ limit) (hm1 : limit ≤ 2000)
  (ret1 : ((rowOf oc p.toNat).length : Int) ≤ limit → endOf oc p.toNat < oc.length → (oc.getD (endOf oc p.toNat) 0 = 13 → endOf oc p.toNat + 1 < oc.length) →
    ∀ o' tp t h' tk at' hl' ib', IsR w.params o' oc at' hl' ib' → (behindOf oc p.toNat : Int) = at' - (if ib' then 1 else 0) → Fr h₀ L h' m → News h₀ L h' ((tp, { cls := .type "tuple", data := .seq #[.bytes (rowOf oc p.toNat).toArray t, .bool true] }) :: g o') → Q (.ref tp) { s with heap := h', toks := tk })
  (ret2 : ((rowOf oc p.toNat).length : Int) ≤ limit → endOf oc p.toNat + 1 = oc.length → oc.getD (endOf oc p.toNat) 0 = 13 → ∀ o' tp t h' tk at', IsC w.params o' oc at' → Fr h₀ L h' m → News h₀ L h' ((tp, { cls := .type "tuple", data := .seq #[.bytes (rowOf oc p.toNat).toArray t, .bool true] }) :: g o') → Q (.ref tp) { s with heap := h', toks := tk })
  (ret3 : ((rowOf oc p.toNat).length : Int) ≤ limit → endOf oc p.toNat = oc.length → ∀ o' tp t h' tk at', IsC w.params o' oc at' → Fr h₀ L h' m → News h₀ L h' ((tp, { cls := .type "tuple", data := .seq #[.bytes (rowOf oc p.toNat).toArray t, .bool false] }) :: g o') → Q (.ref tp) { s with heap := h', toks := tk })
  (ret4 : limit < ((rowOf oc p.toNat).length : Int) →
    ∀ o' at' hl' ib' G e de hsh k n tk tk' h', IsR w.params o' oc at' hl' ib' → Fr h₀ L G m → RaisedE base G (envX cn cs L a ccd cl :: outer) e de ((de, toldD hsh k n #[114, 97, 110, 103, 101, 99, 104, 101, 99, 107] tk) :: g o') h' → G.UpToSlots h' → E (.ref e) { s with heap := h', toks := tk' }) :
  wpAny (model rw_on0267_01.row.prog w) (ktrTop dp un gd cn cs L a ccd cl outer) (call (.ref 125) [.ref x, .int limit tm]) Q E s := by
  obtain ⟨fs, hD, hF⟩ := ho.rf
  rw [← hp] at hF
  by_cases hrow : ((rowOf oc p.toNat).length : Int) ≤ limit
  · refine useY B F X T hk (Nat.lt_of_lt_of_le hdp (by decide)) N hx U hD (fun _ _ => fy_line hF hm0 hm1 hrow) (.cons (a := .val (.ref x)) default (.cons (a := .int limit) tm .nil)) fun v Ω o' t h' tk nw' k hD' F' N' L' => ?_
    obtain ⟨fs', ll'⟩ := Ω
    obtain ⟨tp, ll, b, rfl, rfl, k⟩ := k
    refine L'.tupE fun vs av N2 => ?_
    obtain ⟨t1, t2, rfl⟩ := av.inv2
    have N3 : News h₀ L h' ((tp, tupV [AV.v (.bytes (rowOf oc p.toNat)) t1, AV.v (.val (.bool b)) t2]) :: g o') := fun q hq => N' q (N2 q hq)
    rcases k with ⟨rfl, q1, q2, q3⟩ | ⟨rfl, q1, q2, q3⟩ | ⟨rfl, q1, q3⟩
    · obtain ⟨at', hl', ib', r1, r2⟩ := q3.isR hD'
      exact ret1 hrow q1 q2 o' tp t1 h' tk at' hl' ib' r1 r2.symm F' N3
    · obtain ⟨at', r1⟩ := q3.isC hD'
      exact ret2 hrow q1 q2 o' tp t1 h' tk at' r1 F' N3
    · obtain ⟨at', r1⟩ := q3.isC hD'
      exact ret3 hrow q1 o' tp t1 h' tk at' r1 F' N3
  · obtain ⟨k, rfl⟩ := Int.eq_ofNat_of_zero_le hm0
    have hb := hF.bd
    have hz := (List.takeWhile_sublist (p := fun u : UInt8 => u != 10 && u != 13) (l := oc.drop p.toNat)).length_le
    rw [List.length_drop] at hz
    have hz' : (rowOf oc p.toNat).length ≤ oc.length - p.toNat := hz
    obtain ⟨f, f0, f1, f2⟩ := rf_walk hF (k + 1) (by omega)
    obtain ⟨es, hE, rfl⟩ := hD
    have ne := inst_ne N hx (upd_mem U)
    obtain ⟨e, hU⟩ := updF_again U
    refine wpAny_call ((rc_line (hx := updF_in U hx ne) (hU := hU) f1 f2 (by omega) (by omega)).code B X T hk (Nat.lt_of_lt_of_le hdp (by decide)) F N ⟨_, ⟨es, f0 ▸ hE, by rw [f0]⟩, e⟩ (.cons tm .nil) fun s' G e9 de hsh k9 n tk nw' h FG R U2 led => ?_)
    obtain ⟨o', hD', rfl⟩ := led
    obtain ⟨at', hl', ib', r1, _⟩ := (f1 (k + 1) (Nat.le_refl _)).isR hD'
    rw [h.to]
    exact ret4 (Int.not_le.mp hrow) o' at' hl' ib' G e9 de hsh k9 n tk _ s'.heap r1 FG R U2
end
section -- ConRow
variable {w : World} {A₀ : Around} {base h₀ : Heap} {outer : List Env} {L a : Addr} {m : Str → Option Value} {news : List (Addr × Obj)} {g : Obj → List (Addr × Obj)} {s : Shared} {Q E : Value → Shared → Prop} {dp un : Nat} {gd : Option (List Code)} {cn : Str} {cs : Scope} {ccd : Value} {cl : List (Str × Addr)} {loose : List Str} {mean : ExcName → Option Value} {mg mb : Str → Option Value}
theorem getD_lt {oc : List UInt8} {k : Nat} (h : oc.getD k 0 = 10) : k < oc.length := by
  rcases Nat.lt_or_ge k oc.length with q | q
  · exact q
  · rw [List.getD_eq_getElem?_getD, List.getElem?_eq_none q] at h
    exact absurd h (by decide)
theorem take_two {oc : List UInt8} {k : Nat} : List.take 2 (List.drop k oc) = [13, 10] ↔ k + 1 < oc.length ∧ oc.getD k 0 = 13 ∧ oc.getD (k + 1) 0 = 10 := by
  constructor
  · intro h
    have hl : (List.take 2 (List.drop k oc)).length = 2 := by rw [h]; rfl
    rw [List.length_take, List.length_drop] at hl
    have h0 : (List.take 2 (List.drop k oc))[0]? = some 13 := by rw [h]; rfl
    have h1 : (List.take 2 (List.drop k oc))[1]? = some 10 := by rw [h]; rfl
    rw [List.getElem?_take_of_lt (by decide), List.getElem?_drop] at h0 h1
    refine ⟨by omega, ?_, ?_⟩
    · rw [List.getD_eq_getElem?_getD, show k = k + 0 from rfl, h0]; rfl
    · rw [List.getD_eq_getElem?_getD, h1]; rfl
  · rintro ⟨h, h0, h1⟩
    rw [List.drop_eq_getElem_cons (by omega), List.drop_eq_getElem_cons (by omega)]
    rw [List.getD_eq_getElem?_getD, List.getElem?_eq_getElem (by omega)] at h0 h1
    have h0' : oc[k]'(by omega) = 13 := h0
    have h1' : oc[k + 1]'(by omega) = 10 := h1
    rw [h0', h1']
    rfl
section
open PySem.W PyProof PyProof.V PySem.Calls PySem.Spec
variable {W : Type} {c : Cx W} {l : FS} {ω : W} {e e1 e2 e3 : Expr} {es : List Expr} {b : List UInt8} {i j k n1 n2 : Int} {q : Bool} {pos pos1 pos2 : Pos}
theorem TX.notin2 {kk : Nat} (p1 : EX c l ω e1 (.int k) ω) (p2 : EXs c l ω es [.int n1, .int n2] ω) (hq : ([n1, n2].any (· == k)) = q) (hb : behindInMarks .NotIn (.Tuple es kk pos2) = false := by rfl) : TX c l ω (.Compare e1 [.NotIn] [.Tuple es kk pos2] pos) (!q) ω := .mk fun s Q E whole S H _ =>
  wpAny_isTrue_Compare1 (p1.run s _ E S fun s1 t1 h1 S1 => PyProof.Rows.Tuple_ (p2.run pos2 s1 _ E S1 fun s2 vs h2 S2 av => by
    obtain ⟨t2, t3, rfl⟩ := av.inv2
    refine St.elim S2 fun m nw a led F N => ?_
    exact kup_newTuple F N (fun D h' F' N' _ => notin_tuple_ints (News.isTup N' (.head _)) (.cons n1 t2 (.cons n2 t3 .nil)) (by rw [hq]; exact wpAny_truthy_bool (H { s2 with heap := h' } ((h1.trans h2).trans ⟨rfl, rfl, rfl⟩) ⟨m, nw, a, led, F', fun p hp => N' p (.tail _ hp)⟩))) (by rw [sizeLine_eq]; exact Nat.le_of_ble_eq_true rfl))) hb
theorem EX.slij (p1 : EX c l ω e1 (.bytes b) ω) (p2 : EX c l ω e2 (.int i) ω) (p3 : EX c l ω e3 (.int j) ω) (hi : 0 ≤ i) (hj : 0 ≤ j) (hz : b.length ≤ 16777216)
    (hs : ∀ t ad, subscripted (.Slice (some e2) (some e3) none pos1) false (.bytes b.toArray t) (.ref ad) = operate [.ref ad, .bytes b.toArray t] (getItem (.bytes b.toArray t) (.ref ad)) := by intro _ _; with_unfolding_all rfl)
    (ht : ∀ t r, letTemporaryGo e1 (.bytes b.toArray t) r = pure () := by intro _ _; with_unfolding_all rfl) : EX c l ω (.Subscript e1 (.Slice (some e2) (some e3) none pos1) pos) (.bytes ((b.drop i.toNat).take (j.toNat - i.toNat))) ω := .mk fun s Q E S H =>
  Subscript_ (p1.run s _ E S fun s1 t h1 S1 => wpAny_Slice (evalPart_some_step (p2.run _ _ E S1 fun s2 t2 h2 S2 => evalPart_some_step (p3.run _ _ E S2 fun s3 t3 h3 S3 => evalPart_none_step (by
    refine St.elim S3 fun vs nw a led F N => ?_
    exact sl_ij (s := s3) (ti := t2) (tj := t3) F N hi hj hz (fun h' t' k F' N' => H _ t' (((h1.trans h2).trans h3).trans ⟨rfl, rfl, rfl⟩) ⟨vs, nw, a, led, F', N'⟩) (hs t _) (ht t))))))
end
noncomputable def RwR (oc : List UInt8) (p : Nat) (isw : Bool) (beh : Int) : Prop :=
  (isw = false ∧ endOf oc p = oc.length ∧ beh = (oc.length : Int)) ∨ (isw = true ∧ endOf oc p < oc.length ∧ (oc.getD (endOf oc p) 0 = 10 ∨ oc.getD (endOf oc p) 0 = 13) ∧ beh = (behindOf oc p : Int))
noncomputable def RwΨ {W : Type} (ω : W) (oc : List UInt8) (p : Nat) (v : AV) (Ω : W × LL) : Prop := ∃ tp isw beh, v = .val (.ref tp) ∧ Ω = (ω, [.tup tp [.bytes (rowOf oc p), .val (.bool isw), .int beh]]) ∧ RwR oc p isw beh
noncomputable abbrev rwF (oc : List UInt8) (p : Int) (n : Nat) : FS := [(Str.ofString "end", .int (p + n)), (Str.ofString "at", .int p), (Str.ofString "octets", .bytes oc)]
structure RwI (oc : List UInt8) (p : Int) (got : List UInt8) : Prop where
  hl : p + got.length ≤ oc.length
  hg : got = (oc.drop p.toNat).take got.length
  hn : ∀ u ∈ got, u ≠ 10 ∧ u ≠ 13
theorem any2 {n : Int} : ([10, 13].any (· == n)) = true ↔ n = 10 ∨ n = 13 := by
  simp only [List.any_cons, List.any_nil, Bool.or_false, Bool.or_eq_true, beq_iff_eq]
  constructor <;> rintro (h | h) <;> simp [h]
theorem any2f {n : Int} (h1 : n ≠ 10) (h2 : n ≠ 13) : ([10, 13].any (· == n)) = false := Bool.eq_false_iff.mpr fun h => (any2.mp h).elim h1 h2
theorem row_cut {oc got : List UInt8} {p : Int} (h0 : 0 ≤ p) (hg : got = (oc.drop p.toNat).take got.length) : (oc.drop p.toNat).take ((p + (got.length : Int)).toNat - p.toNat) = got := by
  rw [gap h0 (Int.natCast_nonneg _), Int.toNat_natCast]; exact hg.symm
theorem fy_row {W : Type} {w : World} {Λ : Lg w.params W} {ω : W} {oc : List UInt8} {p : Int} (hp0 : 0 ≤ p) (hp1 : p ≤ oc.length) (hoc : oc.length ≤ 1000) : FY w (LgP Λ) 600 430 [.bytes oc, .int p] (ω, []) (RwΨ ω oc p.toNat) := by
  refine' FY.of (fun hk bs hdp9 => ?zb) ?z6 ?z7 ?z8 (bind2 (n1 := Str.ofString "octets") (n2 := Str.ofString "at") (by intro _ _; kernel_rfl) ?zl ?zm) ?z2 ?z3 ?z4 ?z5
  case z6 => exact rfl
  case z7 => exact rfl
  case z8 => exact rfl
  case zl => exact rfl
  case zm => exact rfl
  case z2 => exact rfl
  case z3 => exact rfl
  case z4 => exact rfl
  case z5 => decide
  have hz : oc.length ≤ 16777216 := Nat.le_trans hoc (by decide)
  refine SX.asg (EX.nm rfl) (SX.whl (WX.ind (fun got : List UInt8 => rwF oc p got.length) (fun _ => (ω, [])) (fun got => oc.length + 1 - got.length) (RwI oc p) [] ⟨by rw [show p + (([] : List UInt8).length : Int) = p from Int.add_zero p]; exact hp1, rfl, fun _ h => nomatch h⟩ (.cons (congrArg some (congrArg AV.int (Int.add_zero p).symm)) (.cons rfl (.cons rfl .nil))) rfl ?_))
  intro got hI ih
  obtain ⟨hl, hg, hn⟩ := hI
  have hq0 : 0 ≤ p + got.length := by omega
  by_cases hlt : p + got.length < (oc.length : Int)
  · generalize hu : oc.getD (p + (got.length : Int)).toNat 0 = u
    by_cases hr : u = 10 ∨ u = 13
    · obtain ⟨e1, e2, e3⟩ := row_at hp0 hg hn hlt (by rw [hu]; exact hr.elim (fun h => .inl (by rw [h]; rfl)) fun h => .inr (by rw [h]; rfl))
      have hu9 : oc.getD (endOf oc p.toNat) 0 = 10 ∨ oc.getD (endOf oc p.toNat) 0 = 13 := by rw [e2, hu]; exact hr
      refine WX.f (TX.cast (TX.and (TX.cmp (EX.nm rfl) (EX.len (EX.nm rfl) hz) Cm.lt) (TX.notin2 (EX.cast (EX.item (EX.nm rfl) (EX.nm rfl) (by omega) hq0 hlt) (congrArg (fun z : UInt8 => AV.int (z.toNat : Nat)) hu)) (EXs.cons EX.ci (EXs.cons EX.ci EXs.nil)) (any2.mpr (hr.elim (fun h => .inl (by rw [h]; rfl)) fun h => .inr (by rw [h]; rfl))))) (and_f2 rfl)) (SX.ifF (TX.cast (TX.cmp (EX.nm rfl) (EX.len (EX.nm rfl) hz) Cm.eq) (bq_f (Int.ne_of_lt hlt))) SX.nil ?_)
      by_cases hw : List.take ((p + (got.length : Int) + 2).toNat - (p + (got.length : Int)).toNat) (List.drop (p + (got.length : Int)).toNat oc) = [13, 10]
      · refine SX.retY (EY.tup (EXs.cons (EX.slij (EX.nm rfl) (EX.nm rfl) (EX.nm rfl) hp0 hq0 hz) (EXs.cons EX.ct (EXs.cons (EX.bin (EX.nm rfl) (EX.if1 (TX.cast (TX.cmp (EX.slij (EX.nm rfl) (EX.nm rfl) (EX.bin (EX.nm rfl) EX.ci Bi.add) hq0 (by omega) hz) EX.cb Cm.eqB) (decide_eq_true hw)) EX.ci) Bi.add) EXs.nil)))) fun v Ω k => ?_
        obtain ⟨tp, rfl, rfl⟩ := k
        rw [gap hq0 (by decide), ← e2] at hw
        exact ⟨tp, true, _, rfl, by rw [row_cut hp0 hg, e1], .inr ⟨rfl, by omega, hu9, by rw [behind_2 (take_two.mp hw).2]; omega⟩⟩
      · refine SX.retY (EY.tup (EXs.cons (EX.slij (EX.nm rfl) (EX.nm rfl) (EX.nm rfl) hp0 hq0 hz) (EXs.cons EX.ct (EXs.cons (EX.bin (EX.nm rfl) (EX.if2 (TX.cast (TX.cmp (EX.slij (EX.nm rfl) (EX.nm rfl) (EX.bin (EX.nm rfl) EX.ci Bi.add) hq0 (by omega) hz) EX.cb Cm.eqB) (decide_eq_false hw)) EX.ci) Bi.add) EXs.nil)))) fun v Ω k => ?_
        obtain ⟨tp, rfl, rfl⟩ := k
        rw [gap hq0 (by decide), ← e2] at hw
        exact ⟨tp, true, _, rfl, by rw [row_cut hp0 hg, e1], .inr ⟨rfl, by omega, hu9, by rw [behind_1 (fun h => hw (take_two.mpr ⟨getD_lt h.2, h⟩))]; omega⟩⟩
    · have h10 : u ≠ 10 := fun h => hr (.inl h)
      have h13 : u ≠ 13 := fun h => hr (.inr h)
      have el : ((got ++ [u]).length) = got.length + 1 := by rw [List.length_append, List.length_singleton]
      exact WX.t (TX.cast (TX.and (TX.cmp (EX.nm rfl) (EX.len (EX.nm rfl) hz) Cm.lt) (TX.notin2 (EX.cast (EX.item (EX.nm rfl) (EX.nm rfl) (by omega) hq0 hlt) (congrArg (fun z : UInt8 => AV.int (z.toNat : Nat)) hu)) (EXs.cons EX.ci (EXs.cons EX.ci EXs.nil)) (any2f (fun z => h10 (u8_int z)) (fun z => h13 (u8_int z))))) (and_t (decide_eq_true hlt) rfl))
        (SX.ofN (SX.asg (EX.bin (EX.nm rfl) EX.ci Bi.add) SX.nil) (ih (got ++ [u]) _ _ ⟨by rw [el]; omega, by rw [el, ← hu]; exact take_more hp0 hg hlt, fun v hv => by
          rcases List.mem_append.mp hv with hv | hv
          · exact hn v hv
          · rw [List.mem_singleton.mp hv]; exact ⟨h10, h13⟩⟩ (by rw [el]; omega) (by rw [el]; exact .cons (congrArg some (congrArg AV.int (Int.add_assoc p got.length 1))) (.cons rfl (.cons rfl .nil))) rfl))
  · have e : p + got.length = (oc.length : Int) := by omega
    obtain ⟨e1, e2⟩ := row_end hp0 hg hn e
    exact WX.f (TX.and1 (TX.cast (TX.cmp (EX.nm rfl) (EX.len (EX.nm rfl) hz) Cm.lt) (decide_eq_false hlt))) (SX.ifP (q := true) (TX.cast (TX.cmp (EX.nm rfl) (EX.len (EX.nm rfl) hz) Cm.eq) (bq_t e)) (SX.retY (EY.tup (EXs.cons (EX.sli (EX.nm rfl) (EX.nm rfl) hp0 hz) (EXs.cons EX.ct (EXs.cons (EX.nm rfl) EXs.nil)))) fun v Ω k => by
      obtain ⟨tp, rfl, rfl⟩ := k
      exact ⟨tp, false, _, rfl, by rw [e1, hg, List.take_of_length_le (by rw [List.length_drop]; omega)], .inl ⟨rfl, by omega, e⟩⟩))
theorem ArgsV.inv3 {a b c : AV} {vs : List Value} (h : ArgsV [a, b, c] vs) : ∃ t u v, vs = [AV.v a t, AV.v b u, AV.v c v] := by
  obtain ⟨t, vs', rfl, h'⟩ := h.inv
  obtain ⟨u, v, rfl⟩ := h'.inv2
  exact ⟨t, u, v, rfl⟩
theorem law_row1 {x dx : Addr} {o : Obj} {oc' : List UInt8} {at_ : Int} {hl ib : Bool}
  {oc : List UInt8} {p : Int} {t1 t2 : Tok}
  (B : Below A₀ base outer h₀) (F : Fr h₀ L s.heap m) (X : (hd.heap_1 w.params).In h₀) (T : Top topProg loose mean mg mb h₀) (hk : cs.kind = .function) (hdp : dp < 590)
  (N : News h₀ L s.heap news) (hx : (x, instObj 226 dx) ∈ news) (hdx : (dx, o) ∈ news) (ho : IsR w.params o oc' at_ hl ib) (hp0 : 0 ≤ p) (hp1 : p ≤ oc.length) (hoc : oc.length ≤ 1000)
  (ret : ∀ isw beh tp t te h' tk, ((isw = false ∧ endOf oc p.toNat = oc.length ∧ beh = (oc.length : Int)) ∨ (isw = true ∧ endOf oc p.toNat < oc.length ∧ (oc.getD (endOf oc p.toNat) 0 = 10 ∨ oc.getD (endOf oc p.toNat) 0 = 13) ∧ beh = (behindOf oc p.toNat : Int))) → Fr h₀ L h' m →
    News h₀ L h' ((tp, { cls := .type "tuple", data := .seq #[.bytes (rowOf oc p.toNat).toArray t, .bool isw, .int beh te] }) :: news) → Q (.ref tp) { s with heap := h', toks := tk }) :
  wpAny (model rw_on0267_01.row.prog w) (ktrTop dp un gd cn cs L a ccd cl outer) (call (.ref 430) [.bytes oc.toArray t1, .int p t2]) Q E s := by
  obtain ⟨_, _, hD, _⟩ := ho
  exact useG B F X T hk (Nat.lt_of_lt_of_le hdp (by decide)) N hx hdx hD (fun _ _ _ => fy_row hp0 hp1 hoc) (fun v Ω h => by obtain ⟨_, _, _, _, rfl, _⟩ := h; rfl) (.cons (a := .bytes oc) t1 (.cons (a := .int p) t2 .nil)) fun v ll t h' tk nw' nw0 k L sub F2 N2 => by
    obtain ⟨tp, isw, beh, rfl, e, k⟩ := k
    obtain rfl := (Prod.mk.inj e).2
    refine L.tupE fun vs av hm => ?_
    obtain ⟨ta, tb, tc, rfl⟩ := av.inv3
    exact ret isw beh tp ta tc h' tk k F2 fun q hq => N2 q (hm q (by
      rcases List.mem_cons.mp hq with rfl | hq
      · exact .head _
      · exact .tail _ (sub q hq)))
end
section -- Refused
theorem kw_14 : True := by
  w_top off
  k_with "exec Raise some none" => (k_here; (with_reducible show wpAny _ _ (exec (Stmt.Raise (some (Expr.Call (Expr.Name (Str.ofString "PsError") _) _ _ _)) none _) _) _ _ _); refine raise_52 rfl ?_)
  k_with "call ref" => (k_here; (with_reducible show wpAny _ _ (call (Value.ref 52) [Value.bytes _ _]) _ _ _); k_dflt (refine' mk_psK ?B ?T ?hA ?hf ?hke ?F ?N ?X ?hd ?_; (case hA => exact rfl); (case hf => exact rfl); (case hke => first | exact rfl | assumption); (case F => k_asm); (case N => k_asm); (case X => k_asm); (case B => k_asm); (case T => k_asm); (case hd => (walk_at "hd9")); k_whole); intro e' de' t' hsh' k' n' h' tk' F' N' ap' ad' X'; (try k_sweep))
  k_with "R52" => (k_dflt (refine' ⟨_, _, _, rfl, ?n, ?x, ?_⟩; (case n => exact (News.get (by k_asm) (List.Mem.head _))); (case x => assumption); k_whole))
  k_with "leaving ref" => (k_here; first
      | (refine' leave_newE ?k1 ?k2 ?k3 ?k4 ?_; (case k4 => assumption); (case k3 => k_asm); (case k2 => k_asm); (case k1 => assumption); k_whole; intro h' R' U'; (try dsimp only at R' U' ⊢))
      | (refine' leave_onE ?k1 ?k2 ?k3 ?k4 ?_; (case k3 => assumption); (case k2 => assumption); (case k1 => assumption); (case k4 => assumption); k_whole; intro h' R' U'; (try dsimp only at R' U' ⊢)))
  k_with "noteFrame ref" => (k_here; (rename RaisedE _ _ _ _ _ _ _ => rE9); k_dflt (refine' caught_E ?R ?F ?K ?U ?XB ?TB ?D ?T0 ?_; (case R => assumption); (case F => assumption); (case K => assumption); (case U => assumption); (case XB => assumption); (case TB => assumption); (case D => assumption); (case T0 => first | assumption | exact KtsTurn.refl); k_whole); intro h' g' t' T' tk' T0' F' N' K' X' P' D'; (try k_lift K'); (try k_sweep))
  k_with "getAttr ref" => (k_here; (with_reducible show wpAny _ _ (getAttr (Value.ref _) (Str.ofString "told") _) _ _ _); k_dflt (refine' told_getK ?F ?X ?N ?h1 ?h2 ?hd ?hu ?_; (case F => k_asm); (case X => k_asm); (case N => k_asm); (case h1 => k_mem); (case h2 => k_mem); (case hd => (walk_at "hd9")); (case hu => (walk_at "hu9")); k_whole); intro tk')
  k_with "LeaveT" => (k_dflt (refine' ⟨_, _, _, _, ?T, ?F, ?N, ?_⟩; (case F => k_asm); (case N => k_asm); (case T => first | assumption | exact KtsTurn.refl); k_whole); intro kg kT kF kN kB kX₀ kP kD; (have kX := kFor kF kX₀); (try k_lift kB))
  trivial
noncomputable abbrev refScope : Scope := { kind := ScopeKind.function, names := [(Str.ofString "deed", NameKind.local), (Str.ofString "found", NameKind.local), (Str.ofString "e", NameKind.local), (Str.ofString "PsError", NameKind.globalImplicit)], isGenerator := false, isCoroutine := false }
noncomputable abbrev refEnv (L' : Addr) : Env := envOf (Str.ofString "_law_refused") refScope L' 423 (Value.ref 422)
noncomputable abbrev refPos : Pos := { line := 288, col := 8, endLine := 288, endCol := 14 }
noncomputable def Refuses (w : World) (base : Heap) (dp un : Nat) (gd : Option (List Code)) (env : Env) (outer : List Env) (loose : List Str) (mean : ExcName → Option Value) (mg mb : Str → Option Value) (deed : Value) (v : Array UInt8) (news news' : List (Addr × Obj)) : Prop :=
  ∀ (g : Heap) (L' : Addr) (m' : Str → Option Value) (s : Shared) (Q E : Value → Shared → Prop),
    Below { handled := none, depth := dp, frames := some (env :: outer), guards := gd, units := un } base (env :: outer) g → Fr g L' s.heap m' → (hd.heap_1 w.params).In g → News g L' s.heap news → Top topProg loose mean mg mb g →
    (∀ (G : Heap) (e de : Addr) (hsh : Int) (k : Tok) (n : Nat) (tk tk' : Tok) (h' : Heap), Fr g L' G m' → RaisedE base G (refEnv L' :: env :: outer) e de ((de, toldD hsh k n v tk) :: news') h' → G.UpToSlots h' → E (.ref e) { s with heap := h', toks := tk' }) →
    wpAny (model rw_on0267_01.row.prog w) (Around.deeper { handled := none, depth := dp, frames := some (env :: outer), guards := gd, units := un } (refEnv L')) (callWith refPos deed [] (backTo refPos (starEach [] (refEnv L'))) []) Q E s

theorem refused_raise {w : World} {A₀ : Around} {base h₀ : Heap} {outer : List Env} {L a : Addr} {m : Str → Option Value} {news news' : List (Addr × Obj)} {s : Shared} {Q E : Value → Shared → Prop}
  {dp un : Nat} {gd : Option (List Code)} {cn : Str} {cs : Scope} {ccd : Value} {cl : List (Str × Addr)} {loose : List Str} {mean : ExcName → Option Value} {mg mb : Str → Option Value} {deed : Value} {v : Array UInt8}
  (B : Below A₀ base outer h₀) (F : Fr h₀ L s.heap m) (X : (hd.heap_1 w.params).In h₀) (T : Top topProg loose mean mg mb h₀) (hk : cs.kind = .function) (hdp : dp < 600) (hun : un < 1000)
  (XB : (hd.heap_1 w.params).In base) (TB : Top topProg loose mean mg mb base) (D : KtsDicts (outer.filterMap (·.frame)) h₀)
  (N : News h₀ L s.heap news)
  (H : Refuses w base dp un gd (envX cn cs L a ccd cl) outer loose mean mg mb deed v news news')
  (ret : ∀ h₀' h' tk tkv, KtsTurn (outer.filterMap (·.frame)) h₀ h₀' → Fr h₀' L h' m → News h₀' L h' news' → Below A₀ base outer h₀' → (hd.heap_1 w.params).In h₀' → Top topProg loose mean mg mb h₀' → KtsDicts (outer.filterMap (·.frame)) h₀' →
    Q (.bytes v tkv) { s with heap := h', toks := tk }) :
  wpAny (model rw_on0267_01.row.prog w) (ktrTop dp un gd cn cs L a ccd cl outer) (call (.ref 423) [deed]) Q E s := by
  revert X
  k_fill
  intro X
  refine wpAny_call ?_
  k_dflt (refine' code_defT ?k1 ?k2 ?k3 ?k4 ?k5 ?XB ?TB ?D ?kA ?kF ?kK ?k6 ?k7 ?k8 ?k9 ?kB ?_ ?c2 ?c3 ?c4 ?c5; (case kA => exact rfl); (case kF => exact rfl); (case kK => first | exact rfl | assumption); (case k1 => k_asm); (case k2 => k_asm); (case k3 => k_asm); (case k4 => k_asm); (case k5 => k_asm); (case XB => assumption); (case TB => assumption); (case D => assumption); (case k6 => k_is); (case k7 => k_is); (case k8 => k_room); (case k9 => first | exact BindsTo.of_eq rfl | exact binds_K (by k_in) rfl (by k_is) rfl rfl rfl | fail "k_enter: no rule for these arguments"); (case c5 => decide); (case kB => exact locs rfl); (case c2 => exact rfl); (case c3 => exact rfl); (case c4 => exact rfl); k_whole; intro g' L' h' FG' F' N' B' X' T' D'; (try dsimp only); (try k_lift B'); (try k_fold))
  k_steps
  refine H _ _ _ _ _ _ (by assumption) (by assumption) (by assumption) (by assumption) (by assumption) fun G e de hsh k n tk tk' h9 FG9 R9 U9 => ?_
  k_steps
  (rename News _ _ _ _ => N9); (rename Fr _ _ _ _ => F9); (rename KtsTurn _ _ _ => T9); (rename Below _ _ _ _ => B9); (rename KtsDicts _ _ => D9); (rename Top _ _ _ _ _ _ => P9); (rename Frag.In _ _ => X9)
  exact ret _ _ _ _ T9 F9 (newsTail (newsTail N9)) B9 X9 P9 D9
end
section -- ConEnd2
variable {w : World} {A₀ : Around} {base h₀ : Heap} {outer : List Env} {L a : Addr} {m : Str → Option Value} {news : List (Addr × Obj)} {g : Obj → List (Addr × Obj)} {s : Shared} {Q E : Value → Shared → Prop} {dp un : Nat} {gd : Option (List Code)} {cn : Str} {cs : Scope} {ccd : Value} {cl : List (Str × Addr)} {loose : List Str} {mean : ExcName → Option Value} {mg mb : Str → Option Value}
theorem kw_15 : True := by
  w_top off
  k_with "call ref" => (k_here; (first | (with_reducible show wpAny _ _ (call (Value.ref 97) [Value.ref _]) _ _ _) | (with_reducible show wpAny _ _ (call (Value.ref 97, [Value.ref _]).fst ((Value.ref 97, [Value.ref _]).snd ++ [])) _ _ _)); (first | (k_dflt (refine' next_R ?B ?F ?X ?T ?hk ?hd ?hu ?N ?hx ?U ?ho (fun hlt9 o9 t9 h' tk' R9 F' N' => ?_) (fun heq9 o9 h' tk' R9 F' N' => ?_); (case N => k_asm); (case F => k_asm); (case B => k_asm); (case X => k_asm); (case T => k_asm); (case hk => first | exact rfl | assumption); (case hx => k_mem); (case U => k_updF); (case ho => assumption); (case hd => walk_at "hd9"); (case hu => walk_at "hu9"); (all_goals (first | ((have R9c : IsR _ _ _ _ _ _ := R9); ((refine IsR.elim R9c ?_; clear R9c; intro _ _ _ _ _ _ _ _ _ _ _ _ _ _ _ _ _ _ _ e9o; intro hpl9 h09 hat9 hoc9 hib9 hl19 hl29 hl39)); (subst e9o)) | ((have R9c : IsC _ _ _ _ := R9); ((refine IsC.elim R9c ?_; clear R9c; intro _ _ _ _ _ _ _ _ _ _ _ _ _ _ _ _ _ _ e9o; intro h09 hat9 hoc9)); (subst e9o))))))); (all_goals (try (exfalso; omega))); (all_goals (try dsimp only at *)); (all_goals (try k_sweep)))
  k_with "call builtin:len" => (k_here; (with_reducible show wpAny _ _ (call (Value.builtin "len") [Value.ref _]) _ _ _); k_dflt (refine' len_oct ?N ?m ?o ?z ?_; (case N => k_asm); (case m => k_mem); (case o => assumption); (case z => omega); k_whole); intro _ _)
  k_with "call type:bytes" => (k_here; (with_reducible show wpAny _ _ (call (Value.type "bytes") [Value.ref _]) _ _ _); k_dflt (refine' bytes_oct ?F ?N ?m ?o ?z ?hh ?_; (case F => k_asm); (case N => k_asm); (case m => k_mem); (case o => assumption); (case z => omega); (case hh => exact rfl); k_whole); intro h' t' k' F' N'; (try k_sweep))
  k_with "call ref" => (k_here; (first | (with_reducible show wpAny _ _ (call (Value.ref 97) [Value.ref _]) _ _ _) | (with_reducible show wpAny _ _ (call (Value.ref 97, [Value.ref _]).fst ((Value.ref 97, [Value.ref _]).snd ++ [])) _ _ _)); (first | (k_dflt (refine' next_R ?B ?F ?X ?T ?hk ?hd ?hu ?N ?hx ?U ?ho (fun hlt9 o9 t9 h' tk' R9 F' N' => ?_) (fun heq9 o9 h' tk' R9 F' N' => ?_); (case N => k_asm); (case F => k_asm); (case B => k_asm); (case X => k_asm); (case T => k_asm); (case hk => first | exact rfl | assumption); (case hx => k_mem); (case U => k_updF); (case ho => assumption); (case hd => walk_at "hd9"); (case hu => walk_at "hu9"); (all_goals (first | ((have R9c : IsR _ _ _ _ _ _ := R9); ((refine IsR.elim R9c ?_; clear R9c; intro _ _ _ _ _ _ _ _ _ _ _ _ _ _ _ _ _ _ _ e9o; intro hpl9 h09 hat9 hoc9 hib9 hl19 hl29 hl39)); (subst e9o)) | ((have R9c : IsC _ _ _ _ := R9); ((refine IsC.elim R9c ?_; clear R9c; intro _ _ _ _ _ _ _ _ _ _ _ _ _ _ _ _ _ _ e9o; intro h09 hat9 hoc9)); (subst e9o)))))) | (k_dflt (refine' next_C ?B ?F ?X ?T ?hk ?hd ?hu ?N ?hx ?U ?ho (fun o9 h' tk' R9 F' N' => ?_); (case N => k_asm); (case F => k_asm); (case B => k_asm); (case X => k_asm); (case T => k_asm); (case hk => first | exact rfl | assumption); (case hx => k_mem); (case U => k_updF); (case ho => assumption); (case hd => walk_at "hd9"); (case hu => walk_at "hu9"); (all_goals (first | ((have R9c : IsR _ _ _ _ _ _ := R9); ((refine IsR.elim R9c ?_; clear R9c; intro _ _ _ _ _ _ _ _ _ _ _ _ _ _ _ _ _ _ _ e9o; intro hpl9 h09 hat9 hoc9 hib9 hl19 hl29 hl39)); (subst e9o)) | ((have R9c : IsC _ _ _ _ := R9); ((refine IsC.elim R9c ?_; clear R9c; intro _ _ _ _ _ _ _ _ _ _ _ _ _ _ _ _ _ _ e9o; intro h09 hat9 hoc9)); (subst e9o))))))); (all_goals (try (exfalso; omega))); (all_goals (try dsimp only at *)); (all_goals (try k_sweep)))
  k_with "call ref" => (k_here; (first | (with_reducible show wpAny _ _ (call (Value.ref 104) [Value.ref _]) _ _ _) | (with_reducible show wpAny _ _ (call (Value.ref 104, [Value.ref _]).fst ((Value.ref 104, [Value.ref _]).snd ++ [])) _ _ _)); (first | (k_dflt (refine' back_R0 ?B ?F ?X ?T ?hk ?hd ?hu ?N ?hx ?U ?ho (fun o9 h' tk' R9 F' N' => ?_); (case N => k_asm); (case F => k_asm); (case B => k_asm); (case X => k_asm); (case T => k_asm); (case hk => first | exact rfl | assumption); (case hx => k_mem); (case U => k_updF); (case ho => assumption); (case hd => walk_at "hd9"); (case hu => walk_at "hu9"); (all_goals (first | ((have R9c : IsR _ _ _ _ _ _ := R9); ((refine IsR.elim R9c ?_; clear R9c; intro _ _ _ _ _ _ _ _ _ _ _ _ _ _ _ _ _ _ _ e9o; intro hpl9 h09 hat9 hoc9 hib9 hl19 hl29 hl39)); (subst e9o)) | ((have R9c : IsC _ _ _ _ := R9); ((refine IsC.elim R9c ?_; clear R9c; intro _ _ _ _ _ _ _ _ _ _ _ _ _ _ _ _ _ _ e9o; intro h09 hat9 hoc9)); (subst e9o)))))) | (k_dflt (refine' back_R1 ?B ?F ?X ?T ?hk ?hd ?hu ?N ?hx ?U ?ho (fun o9 h' tk' R9 F' N' => ?_); (case N => k_asm); (case F => k_asm); (case B => k_asm); (case X => k_asm); (case T => k_asm); (case hk => first | exact rfl | assumption); (case hx => k_mem); (case U => k_updF); (case ho => assumption); (case hd => walk_at "hd9"); (case hu => walk_at "hu9"); (all_goals (first | ((have R9c : IsR _ _ _ _ _ _ := R9); ((refine IsR.elim R9c ?_; clear R9c; intro _ _ _ _ _ _ _ _ _ _ _ _ _ _ _ _ _ _ _ e9o; intro hpl9 h09 hat9 hoc9 hib9 hl19 hl29 hl39)); (subst e9o)) | ((have R9c : IsC _ _ _ _ := R9); ((refine IsC.elim R9c ?_; clear R9c; intro _ _ _ _ _ _ _ _ _ _ _ _ _ _ _ _ _ _ e9o; intro h09 hat9 hoc9)); (subst e9o))))))); (all_goals (try (exfalso; omega))); (all_goals (try dsimp only at *)); (all_goals (try k_sweep)))
  k_with "call ref" => (k_here; (first | (with_reducible show wpAny _ _ (call (Value.ref 209) [Value.ref _]) _ _ _) | (with_reducible show wpAny _ _ (call (Value.ref 209, [Value.ref _]).fst ((Value.ref 209, [Value.ref _]).snd ++ [])) _ _ _)); (first | (k_dflt (refine' avail_R ?B ?F ?X ?T ?hk ?hd ?hu ?N ?hx ?U ?ho (fun o9 t9 h' tk' R9 F' N' => ?_); (case N => k_asm); (case F => k_asm); (case B => k_asm); (case X => k_asm); (case T => k_asm); (case hk => first | exact rfl | assumption); (case hx => k_mem); (case U => k_updF); (case ho => assumption); (case hd => walk_at "hd9"); (case hu => walk_at "hu9"); (all_goals (first | ((have R9c : IsR _ _ _ _ _ _ := R9); ((refine IsR.elim R9c ?_; clear R9c; intro _ _ _ _ _ _ _ _ _ _ _ _ _ _ _ _ _ _ _ e9o; intro hpl9 h09 hat9 hoc9 hib9 hl19 hl29 hl39)); (subst e9o)) | ((have R9c : IsC _ _ _ _ := R9); ((refine IsC.elim R9c ?_; clear R9c; intro _ _ _ _ _ _ _ _ _ _ _ _ _ _ _ _ _ _ e9o; intro h09 hat9 hoc9)); (subst e9o)))))) | (k_dflt (refine' avail_C ?B ?F ?X ?T ?hk ?hd ?hu ?N ?hx ?U ?ho (fun o9 t9 h' tk' R9 F' N' => ?_); (case N => k_asm); (case F => k_asm); (case B => k_asm); (case X => k_asm); (case T => k_asm); (case hk => first | exact rfl | assumption); (case hx => k_mem); (case U => k_updF); (case ho => assumption); (case hd => walk_at "hd9"); (case hu => walk_at "hu9"); (all_goals (first | ((have R9c : IsR _ _ _ _ _ _ := R9); ((refine IsR.elim R9c ?_; clear R9c; intro _ _ _ _ _ _ _ _ _ _ _ _ _ _ _ _ _ _ _ e9o; intro hpl9 h09 hat9 hoc9 hib9 hl19 hl29 hl39)); (subst e9o)) | ((have R9c : IsC _ _ _ _ := R9); ((refine IsC.elim R9c ?_; clear R9c; intro _ _ _ _ _ _ _ _ _ _ _ _ _ _ _ _ _ _ e9o; intro h09 hat9 hoc9)); (subst e9o))))))); (all_goals (try (exfalso; omega))); (all_goals (try dsimp only at *)); (all_goals (try k_sweep)))
  k_with "call ref" => (k_here; (first | (with_reducible show wpAny _ _ (call (Value.ref 216) [Value.ref _]) _ _ _) | (with_reducible show wpAny _ _ (call (Value.ref 216, [Value.ref _]).fst ((Value.ref 216, [Value.ref _]).snd ++ [])) _ _ _)); (first | (k_dflt (refine' pos_R ?B ?F ?X ?T ?hk ?hd ?hu ?N ?hx ?U ?ho (fun o9 t9 h' tk' R9 F' N' => ?_); (case N => k_asm); (case F => k_asm); (case B => k_asm); (case X => k_asm); (case T => k_asm); (case hk => first | exact rfl | assumption); (case hx => k_mem); (case U => k_updF); (case ho => assumption); (case hd => walk_at "hd9"); (case hu => walk_at "hu9"); (all_goals (first | ((have R9c : IsR _ _ _ _ _ _ := R9); ((refine IsR.elim R9c ?_; clear R9c; intro _ _ _ _ _ _ _ _ _ _ _ _ _ _ _ _ _ _ _ e9o; intro hpl9 h09 hat9 hoc9 hib9 hl19 hl29 hl39)); (subst e9o)) | ((have R9c : IsC _ _ _ _ := R9); ((refine IsC.elim R9c ?_; clear R9c; intro _ _ _ _ _ _ _ _ _ _ _ _ _ _ _ _ _ _ e9o; intro h09 hat9 hoc9)); (subst e9o))))))); (all_goals (try (exfalso; omega))); (all_goals (try dsimp only at *)); (all_goals (try k_sweep)))
  k_with "call ref" => (k_here; (first | (with_reducible show wpAny _ _ (call (Value.ref 223) [Value.ref _, Value.int _ _]) _ _ _) | (with_reducible show wpAny _ _ (call (Value.ref 223, [Value.ref _]).fst ((Value.ref 223, [Value.ref _]).snd ++ [Value.int _ _])) _ _ _)); (first | (k_dflt (refine' setpos_R ?B ?F ?X ?T ?hk ?hd ?hu ?N ?hx ?U ?ho ?q0 ?q1 (fun o9 h' tk' R9 F' N' => ?_); (case N => k_asm); (case F => k_asm); (case B => k_asm); (case X => k_asm); (case T => k_asm); (case hk => first | exact rfl | assumption); (case hx => k_mem); (case U => k_updF); (case ho => assumption); (case hd => walk_at "hd9"); (case hu => walk_at "hu9"); (case q0 => omega); (case q1 => omega); (all_goals (first | ((have R9c : IsR _ _ _ _ _ _ := R9); ((refine IsR.elim R9c ?_; clear R9c; intro _ _ _ _ _ _ _ _ _ _ _ _ _ _ _ _ _ _ _ e9o; intro hpl9 h09 hat9 hoc9 hib9 hl19 hl29 hl39)); (subst e9o)) | ((have R9c : IsC _ _ _ _ := R9); ((refine IsC.elim R9c ?_; clear R9c; intro _ _ _ _ _ _ _ _ _ _ _ _ _ _ _ _ _ _ e9o; intro h09 hat9 hoc9)); (subst e9o))))))); (all_goals (try (exfalso; omega))); (all_goals (try dsimp only at *)); (all_goals (try k_sweep)))
  k_with "call ref" => (k_here; (first | (with_reducible show wpAny _ _ (call (Value.ref 153) [Value.ref _]) _ _ _) | (with_reducible show wpAny _ _ (call (Value.ref 153, [Value.ref _]).fst ((Value.ref 153, [Value.ref _]).snd ++ [])) _ _ _)); (first | (k_dflt (refine' close_R ?B ?F ?X ?T ?hk ?hd ?hu ?N ?hx ?U ?ho (fun o9 h' tk' R9 F' N' => ?_); (case N => k_asm); (case F => k_asm); (case B => k_asm); (case X => k_asm); (case T => k_asm); (case hk => first | exact rfl | assumption); (case hx => k_mem); (case U => k_updF); (case ho => assumption); (case hd => walk_at "hd9"); (case hu => walk_at "hu9"); (all_goals (first | ((have R9c : IsR _ _ _ _ _ _ := R9); ((refine IsR.elim R9c ?_; clear R9c; intro _ _ _ _ _ _ _ _ _ _ _ _ _ _ _ _ _ _ _ e9o; intro hpl9 h09 hat9 hoc9 hib9 hl19 hl29 hl39)); (subst e9o)) | ((have R9c : IsC _ _ _ _ := R9); ((refine IsC.elim R9c ?_; clear R9c; intro _ _ _ _ _ _ _ _ _ _ _ _ _ _ _ _ _ _ e9o; intro h09 hat9 hoc9)); (subst e9o))))))); (all_goals (try (exfalso; omega))); (all_goals (try dsimp only at *)); (all_goals (try k_sweep)))
  trivial
noncomputable def Stop (p : Prop) : Prop := p
theorem stop_ {p : Prop} (h : Stop p) : p := h
theorem split4 {h₀ h : Heap} {L x dx : Addr} {ox o : Obj} {news keep : List (Addr × Obj)} {g : Obj → List (Addr × Obj)}
    (N : News h₀ L h news) (hx : (x, ox) ∈ news) (U : UpdF dx o news g) (hne : x ≠ dx) (hkeep : ∀ p ∈ keep, p ∈ news ∧ p.1 ≠ x ∧ p.1 ≠ dx) :
    ∃ own, OwnOff own [x, dx] ∧ News h₀ L h ((x, ox) :: (dx, o) :: own) ∧ (∀ p ∈ keep, p ∈ own) := by
  obtain ⟨pre, post, e, eg, h1, h2⟩ := U.split
  refine ⟨news.filter (fun p => decide (p.1 ≠ x) && decide (p.1 ≠ dx)), ?_, ?_, ?_⟩
  · intro p hp b hb
    have := (List.mem_filter.mp hp).2
    simp only [Bool.and_eq_true, decide_eq_true_eq] at this
    rcases List.mem_cons.mp hb with rfl | hb
    · exact this.1
    · rw [List.mem_singleton.mp hb]; exact this.2
  · intro p hp
    rcases List.mem_cons.mp hp with rfl | hp
    · exact N _ hx
    · rcases List.mem_cons.mp hp with rfl | hp
      · exact N _ (by rw [e]; simp)
      · exact N _ (List.mem_filter.mp hp).1
  · intro p hp
    obtain ⟨a, b, c⟩ := hkeep p hp
    exact List.mem_filter.mpr ⟨a, by simp [b, c]⟩
theorem newsOf {h₀ h : Heap} {L : Addr} {l l' : List (Addr × Obj)} (N : News h₀ L h l) (hs : ∀ p ∈ l', p ∈ l) : News h₀ L h l' := fun p hp => N p (hs p hp)
theorem kw_16 : True := by
  k_with "call ref" => (k_here; (with_reducible show wpAny _ _ (call (Value.ref 423) [Value.ref _]) _ _ _); refine stop_ ?_)
  trivial
theorem ended_K {x dx : Addr}
  {o : Obj} {oc : List UInt8} {at_ : Int} {keep : List (Addr × Obj)}
  (B : Below A₀ base outer h₀) (F : Fr h₀ L s.heap m) (X : (hd.heap_1 w.params).In h₀) (T : Top topProg loose mean mg mb h₀) (hk : cs.kind = .function) (hdp : dp < 580) (hun : un < 800)
  (XB : (hd.heap_1 w.params).In base) (TB : Top topProg loose mean mg mb base) (D : KtsDicts (outer.filterMap (·.frame)) h₀) (N : News h₀ L s.heap news) (hx : (x, instObj 226 dx) ∈ news) (U : UpdF dx o news g) (ho : IsC w.params o oc at_) (hkeep : ∀ p ∈ keep, p ∈ news ∧ p.1 ≠ x ∧ p.1 ≠ dx)
  (ret : ∀ h₀' h' tk, KtsTurn (outer.filterMap (·.frame)) h₀ h₀' → Fr h₀' L h' m → News h₀' L h' keep → Below A₀ base outer h₀' → (hd.heap_1 w.params).In h₀' → Top topProg loose mean mg mb h₀' → KtsDicts (outer.filterMap (·.frame)) h₀' →
    Q (.bool true) { s with heap := h', toks := tk }) :
  wpAny (model rw_on0267_01.row.prog w) (ktrTop dp un gd cn cs L a ccd cl outer) (call (.ref 444) [.ref x]) Q E s := by
  have hR := ho
  have hdm := upd_mem U
  (refine IsC.elim ho ?_; clear ho; intro k0 k1 k2 k3 k4 k5 k6 k7 k8 k9 t0 t1 t5 t8 t9 num nm pl e9z; subst e9z; intro h0 hat hoc)
  have hxd := inst_ne N hx hdm
  obtain ⟨own, hoff, N1, sub⟩ := split4 N hx U hxd hkeep
  clear U hx hdm N hkeep
  have hsz : oc.toArray.size = oc.length := List.size_toArray
  revert X
  k_fill
  intro X
  refine wpAny_call ?_
  k_dflt (refine' code_defT ?k1 ?k2 ?k3 ?k4 ?k5 ?XB ?TB ?D ?kA ?kF ?kK ?k6 ?k7 ?k8 ?k9 ?kB ?_ ?c2 ?c3 ?c4 ?c5; (case kA => exact rfl); (case kF => exact rfl); (case kK => first | exact rfl | assumption); (case k1 => k_asm); (case k2 => k_asm); (case k3 => k_asm); (case k4 => k_asm); (case k5 => k_asm); (case XB => assumption); (case TB => assumption); (case D => assumption); (case k6 => k_is); (case k7 => k_is); (case k8 => k_room); (case k9 => first | exact BindsTo.of_eq rfl | exact binds_K (by k_in) rfl (by k_is) rfl rfl rfl | fail "k_enter: no rule for these arguments"); (case c5 => decide); (case kB => exact locs rfl); (case c2 => exact rfl); (case c3 => exact rfl); (case c4 => exact rfl); k_whole; intro g' L' h' FG' F' N' B' X' T' D'; (try dsimp only); (try k_lift B'); (try k_fold))
  k_steps
  unfold Stop
  k_dflt (refine' refused_raise (news' := own) (v := #[105, 111, 101, 114, 114, 111, 114]) ?B ?F ?X ?T ?hk ?hd ?hu ?XB ?TB ?D ?N ?H ?R; (case N => k_asm); (case F => k_asm); (case B => k_asm); (case X => k_asm); (case T => k_asm); (case hk => first | exact rfl | assumption); (case hd => walk_at "hd9"); (case hu => walk_at "hu9"); (case XB => assumption); (case TB => assumption); (case D => assumption))
  case H =>
    intro g8 L8 m8 s8 Q8 E8 B8 F8 X8 N8 T8 RE8
    k_steps
    (rename RaisedE _ _ _ _ _ _ _ => N9); (rename Heap.UpToSlots _ _ => U9)
    (rename Fr g8 L8 _ m8 => F9)
    exact RE8 _ _ _ _ _ _ _ _ _ F9 (raisedSub N9 (fun p hp => by
      rcases List.mem_cons.mp hp with rfl | hp
      · exact .head _
      · exact .tail _ (.tail _ (.tail _ (.tail _ hp))))) U9
  case R =>
    intro h₀' h' tk tkv KT F' N' B' X' T' D'
    k_steps
    (rename KtsTurn (List.filterMap _ outer) _ _ => T9); (rename Fr _ L _ m => F9); (rename Below A₀ _ _ _ => B9); (rename KtsDicts (List.filterMap _ outer) _ => D9); (rename Top _ _ _ _ _ _ => P9); (rename Frag.In _ _ => X9); (rename News _ L _ _ => N9)
    simp only [decide_true]
    exact ret _ _ _ T9 F9 (newsOf N9 sub) B9 X9 P9 D9
end
section -- DefC
open PySem.Calls PySem.Spec
section
variable {w : World} {A₀ A : Around} {s : Shared} {base h₀ : Heap} {outer : List Env} {env : Env} {L : Addr} {m : Str → Option Value} {news : List (Addr × Obj)} {loose : List Str} {mean : ExcName → Option Value} {mg mb : Str → Option Value}
    {R : Result → Shared → Prop} {name qual : Str} {params : Arguments} {body : List Stmt} {scope : Scope} {dV kV doc pm cdv ct oc : Value} {an od : Option Addr} {osl : Array (Option Value)} {f : Addr} {args : Args} {binds : List (Str × Value)}
theorem code_defCT (B : Below A₀ base outer h₀) (F : Fr h₀ L s.heap m) (X₀ : (hd.heap_1 w.params).In h₀) (N : News h₀ L s.heap news) (T : Top topProg loose mean mg mb h₀) (XB : (hd.heap_1 w.params).In base) (TB : Top topProg loose mean mg mb base) (D : KtsDicts (outer.filterMap (·.frame)) h₀)
    (hA : A.frames = some (env :: outer)) (hf : env.frame = some L) (hke : env.scope.kind = .function)
    (ho : (hd.heap_1 w.params).lookup f = some ⟨oc, od, .func (fnOf name qual params body scope dV kV doc pm an cdv ct), osl⟩) (hcd : codeIn (hd.heap_1 w.params) cdv qual = true) (hroom : A.depth < recursionLimit)
    (hbind : BindsTo s (fnOf name qual params body scope dV kV doc pm an cdv ct) args binds) (hkind : (binds.all fun y => scope.names.lookup y.1 == some .local || scope.names.lookup y.1 == some .cell) = true)
    (hnd : ((cellsFrom 0 scope.names []).map (·.1)).Nodup)
    (h : ∀ g L' h₁ tk cells, Fr h₀ L g m → Fr g L' h₁ (bindL (envOfC qual scope L' f cdv).kindOf binds fun _ => none) → News g L' h₁ (cells ++ news) →
      CellsAre (bindC (envOfC qual scope L' f cdv).kindOf binds fun _ => none) (cellsFrom (L' + 1) scope.names []) cells → Below A base (env :: outer) g → (hd.heap_1 w.params).In g → Top topProg loose mean mg mb g → (∀ p ∈ news, p.1 < L') → KtsDicts ((env :: outer).filterMap (·.frame)) g →
      wpAny (model rw_on0267_01.row.prog w) (A.deeper (envOfC qual scope L' f cdv)) (execs body (envOfC qual scope L' f cdv))
        (fun fl s' => LeaveT A₀ base env outer w loose mean mg mb h₀ L m g R (match fl with | .ret v => v | _ => .none) s')
        (fun e s' => wpAny (model rw_on0267_01.row.prog w) (A.deeper (envOfC qual scope L' f cdv)) (leaving (envOfC qual scope L' f cdv) e) (fun _ s'' => R (.error e) s'') (fun e' s'' => R (.error e') s'') s')
        { s with heap := h₁, toks := tk })
    (hco : scope.isCoroutine = false) (hgen : scope.isGenerator = false) (hk : scope.kind = .function) : codeAny (model rw_on0267_01.row.prog w) A (.call (.ref f) args) R s := by
  have X := X₀.keeps F.keep
  obtain ⟨FG, BG, st, _⟩ := groundX (R := R) B F N hA hf hke
  refine codeAny_call_function hroom (X _ _ ho) rfl hco hgen rfl (codeRec_of X hcd) (hbind _ _ _ _ ?_)
  refine wpAny_newFunctionEnv_cells hk (kindsX hkind _) fun env' he s' x => ?_
  subst he
  refine ⟨(T.nolimit.keeps F.keep).keeps x.toInCall.keep, codeAny_func ?_⟩
  obtain ⟨h₁, tk, rfl, _⟩ := x.done
  have hk₁ := x.toInCall.keep
  obtain ⟨cells, NC, Y⟩ := Cl.news (h₀ := s.heap) (Nat.le_refl _) fun n c hm => ⟨x.cell n c (lookup_of_mem_nodup (cellsFrom_names scope.names 0 (s.heap.objs.size + 1) [] [] rfl ▸ hnd) hm), x.above n c hm⟩
  refine wpAny_mono (h _ s.heap.objs.size h₁ tk cells FG ⟨x.toInCall.ns, fun b o e => hk₁ b o (of_hideAll _ e), Nat.le_of_eq (hideAll_size _ _)⟩ (fun p hp => ?_) Y BG (X₀.keeps st) (T.keeps st) (fun p hp => Heap.lt_size (N p hp).1) (fun b hb => ?_)) (fun fl s' hl => leaveT_back B F N hA hf hke XB TB D hl) fun _ _ y => y
  · rcases List.mem_append.mp hp with hp | hp
    · refine ⟨(NC p hp).1, (NC p hp).2.1, ?_⟩
      cases q : (hideAll s.heap (news.map (·.1))).get? p.1 with
      | none => rfl
      | some o => have := of_hideAll _ q; rw [(NC p hp).2.2] at this; cases this
    · exact ⟨hk₁ _ _ (N p hp).1, Nat.ne_of_lt (Heap.lt_size (N p hp).1), hideAll_none _ (List.mem_map_of_mem hp)⟩
  · obtain ⟨oL, es, ep, hLg, hLd, hLk, hLf⟩ := FG.ns
    rcases fr_mem hf hb with rfl | hb
    · exact ⟨oL, es, ep, hLg, hLd⟩
    · obtain ⟨o, es', n', ho', hd'⟩ := D b hb
      exact ⟨o, es', n', st b o ho', hd'⟩
end
theorem offLt {own : List (Addr × Obj)} {d b : Nat} (h : AllLt d own) (hb : d ≤ b) : ∀ p ∈ own, p.1 ≠ b := fun p hp e => by
  have := kst_ltOf h p hp
  rw [e] at this
  exact absurd this (Nat.not_lt.mpr hb)
end
section -- HZR
variable {w : World} {A₀ : Around} {base h₀ : Heap} {outer : List Env} {L a : Addr} {m : Str → Option Value} {news : List (Addr × Obj)} {g : Obj → List (Addr × Obj)} {s : Shared} {Q E : Value → Shared → Prop} {dp un : Nat} {gd : Option (List Code)} {cn : Str} {cs : Scope} {ccd : Value} {cl : List (Str × Addr)} {loose : List Str} {mean : ExcName → Option Value} {mg mb : Str → Option Value}
theorem useZ {x dx C f : Addr} {o : Obj} {fs : FS} {args : List AV} {vs : List Value} {msg : List UInt8}
  (B : Below A₀ base outer h₀) (F : Fr h₀ L s.heap m) (X : (hd.heap_1 w.params).In h₀) (T : Top topProg loose mean mg mb h₀) (hk : cs.kind = .function) (hdp : dp < n)
  (N : News h₀ L s.heap news) (hx : (x, instObj C dx) ∈ news) (hdx : (dx, o) ∈ news) (hD : Dk w.params o fs)
  (mc : ∀ own ne hO, RC w (LgZ w.params x dx C o own ne hO) n f args (fs, false) msg (fs, false)) (ha : ArgsV args vs)
  (ret : ∀ G e de hsh k n tk tk' h', Fr h₀ L G m → RaisedE base G (envX cn cs L a ccd cl :: outer) e de ((de, toldD hsh k n msg.toArray tk) :: news) h' → G.UpToSlots h' → E (.ref e) { s with heap := h', toks := tk' }) :
  wpAny (model rw_on0267_01.row.prog w) (ktrTop dp un gd cn cs L a ccd cl outer) (call (.ref f) (.ref x :: vs)) Q E s := by
  refine splitZ N hx hdx hD fun own hne hO N1 sub => ?_
  refine wpAny_call ((mc _ hne hO).code B X T hk hdp F N1 ⟨o, hD, fun _ => rfl, rfl⟩ ha fun s' G e de hsh k n tk nw' h2 FG R U led => ?_)
  obtain ⟨o', _, e1, rfl⟩ := led
  obtain rfl := e1 rfl
  rw [Same.to h2]
  exact ret G e de hsh k n tk _ s'.heap FG (raisedSub R fun q hq => by
    rcases List.mem_cons.mp hq with rfl | hq
    · exact .head _
    · exact .tail _ (sub q hq)) U
theorem kw_17 : True := by
  k_with "rx" => first
      | ((with_reducible show RX _ _ _ (Stmt.Raise _ _ _ :: _) _ _); exact RX.raise (by kernel_rfl) (by kernel_rfl) (by walk_at "ex") (by walk_at "dp9"))
      | ((with_reducible show RX _ _ _ (Stmt.If _ _ _ _ :: _) _ _); first | exact RX.ifF (TX.cast (by walk_at "tx") (by walk_at "bt")) (by walk_at "rx") | exact RX.ifT (TX.cast (by walk_at "tx") (by walk_at "bt")) (by walk_at "rx"))
      | ((with_reducible show RX _ _ _ (Stmt.Expr _ _ :: _) _ _); first | exact RX.expR (by walk_at "er") | exact RX.exp (by walk_at "ex") (by walk_at "rx"))
      | ((with_reducible show RX _ _ _ (Stmt.Assign [Expr.Name _ _] _ _ :: _) _ _); exact RX.asg (by walk_at "ex") (by walk_at "rx"))
  k_with "er" => exact ER.methN rfl (by walk_at "mok") (by walk_at "exs") (by walk_at "rcs") (by walk_at "dp9")
  trivial
section
theorem kw_18 : True := by
  k_with "mok" => with_reducible exact mkR_check_open
  trivial
variable {w : World} {x dx : Addr} {o0 : Obj} {own : List (Addr × Obj)} {ne : x ≠ dx} {hO : ∀ p ∈ own, p.1 ≠ dx} {num pl at_ : Int} {nm oc sm : List UInt8} {op ib fl : Bool} {la : AV} {n : Int}
theorem rr_check : RC w (LgZ w.params x dx 226 o0 own ne hO) 690 111 [.val (.bool false)] (fsR num nm op pl la ib oc at_, fl) [105, 110, 118, 97, 108, 105, 100, 97, 99, 99, 101, 115, 115] (fsR num nm op pl la ib oc at_, fl) := by
  refine' RC.of1 (Str.ofString "is_to_read") (fun hk bs hdp9 => ?b) rfl rfl rfl (by intro _ _; kernel_rfl) rfl rfl rfl rfl rfl (by decide)
  case b => walk_at "rx"
theorem kw_19 : True := by
  k_with "rcs" => exact rr_check (ne := ne) (hO := hO)
  trivial
theorem rr_write : RC w (LgZ w.params x dx 226 o0 own ne hO) 680 132 [.bytes sm] (fsR num nm op pl la ib oc at_, fl) [105, 110, 118, 97, 108, 105, 100, 97, 99, 99, 101, 115, 115] (fsR num nm op pl la ib oc at_, fl) := by
  refine' RC.of1 (Str.ofString "octets") (fun hk bs hdp9 => ?b) rfl rfl rfl (by intro _ _; kernel_rfl) rfl rfl rfl rfl rfl (by decide)
  case b => walk_at "rx"
theorem mz_check : MC w (LgZ w.params x dx 226 o0 own ne hO) 695 111 [.val (.bool true)] (fsR num nm true pl la ib oc at_, fl) (.val .none) (fsR num nm true pl la ib oc at_, fl) := by
  walk_at "mcofN1"
theorem kw_20 : True := by
  k_with "mcs" => exact mz_check (ne := ne) (hO := hO)
  trivial
theorem rr_set1 (h : n < 0) : RC w (LgZ w.params x dx 226 o0 own ne hO) 690 223 [.int n] (fsR num nm true pl la ib oc at_, fl) [114, 97, 110, 103, 101, 99, 104, 101, 99, 107] (fsR num nm true pl la ib oc at_, fl) := by
  refine' RC.of1 (Str.ofString "place") (fun hk bs hdp9 => ?b) rfl rfl rfl (by intro _ _; kernel_rfl) rfl rfl rfl rfl rfl (by decide)
  case b => walk_at "rx"
theorem rr_set2 (h : (oc.length : Int) < n) (hz : oc.length ≤ 1000) : RC w (LgZ w.params x dx 226 o0 own ne hO) 690 223 [.int n] (fsR num nm true pl la ib oc at_, fl) [105, 111, 101, 114, 114, 111, 114] (fsR num nm true pl la ib oc at_, fl) := by
  refine' RC.of1 (Str.ofString "place") (fun hk bs hdp9 => ?b) rfl rfl rfl (by intro _ _; kernel_rfl) rfl rfl rfl rfl rfl (by decide)
  case b => walk_at "rx"
end
section
theorem kw_21 : True := by
  k_with "mok" => with_reducible exact mkD_check_open
  trivial
variable {w : World} {x dx d : Addr} {o0 : Obj} {own : List (Addr × Obj)} {ne : x ≠ dx} {hO : ∀ p ∈ own, p.1 ≠ dx} {num pl at_ : Int} {sm : List UInt8} {cr fl : Bool} {la : AV}
theorem rd_check : RC w (LgZ w.params x dx 280 o0 own ne hO) 690 111 [.val (.bool false)] (fsD num cr false pl la d at_, fl) [105, 111, 101, 114, 114, 111, 114] (fsD num cr false pl la d at_, fl) := by
  refine' RC.of1 (Str.ofString "is_to_read") (fun hk bs hdp9 => ?b) rfl rfl rfl (by intro _ _; kernel_rfl) rfl rfl rfl rfl rfl (by decide)
  case b => walk_at "rx"
theorem kw_22 : True := by
  k_with "rcs" => exact rd_check (ne := ne) (hO := hO)
  trivial
theorem rd_write : RC w (LgZ w.params x dx 280 o0 own ne hO) 680 132 [.bytes sm] (fsD num cr false pl la d at_, fl) [105, 111, 101, 114, 114, 111, 114] (fsD num cr false pl la d at_, fl) := by
  refine' RC.of1 (Str.ofString "octets") (fun hk bs hdp9 => ?b) rfl rfl rfl (by intro _ _; kernel_rfl) rfl rfl rfl rfl rfl (by decide)
  case b => walk_at "rx"
end
end
section -- ConRL
variable {w : World} {A₀ : Around} {base h₀ : Heap} {outer : List Env} {L a : Addr} {m : Str → Option Value} {news : List (Addr × Obj)} {g : Obj → List (Addr × Obj)} {s : Shared} {Q E : Value → Shared → Prop} {dp un : Nat} {gd : Option (List Code)} {cn : Str} {cs : Scope} {ccd : Value} {cl : List (Str × Addr)} {loose : List Str} {mean : ExcName → Option Value} {mg mb : Str → Option Value}
theorem next_RL {x dx : Addr}
  {o : Obj} {oc : List UInt8} {at_ p : Int} {hl ib : Bool}
  (B : Below A₀ base outer h₀) (F : Fr h₀ L s.heap m) (X : (hd.heap_1 w.params).In h₀) (T : Top topProg loose mean mg mb h₀) (hk : cs.kind = .function) (hdp : dp < 600) (hun : un < 1000)
  (N : News h₀ L s.heap news) (hx : (x, instObj 226 dx) ∈ news) (U : UpdF dx o news g) (ho : IsR w.params o oc at_ hl ib) (hp : p = at_ - (if ib then 1 else 0))
  (ret1 : p < oc.length → ∀ o' at' t h' tk, IsR w.params o' oc at' true false → p + 1 = at' - (if false = true then 1 else 0) → Fr h₀ L h' m → News h₀ L h' (g o') → Q (.int ((oc.getD p.toNat 0).toNat : Int) t) { s with heap := h', toks := tk })
  (ret2 : p = oc.length → ∀ o' at' h' tk, IsC w.params o' oc at' → Fr h₀ L h' m → News h₀ L h' (g o') → Q .none { s with heap := h', toks := tk }) :
  wpAny (model rw_on0267_01.row.prog w) (ktrTop dp un gd cn cs L a ccd cl outer) (call (.ref 97) [.ref x]) Q E s := by
  subst hp
  exact next_R B F X T hk hdp hun N hx U ho (fun h o' t h' tk R => ret1 h o' _ t h' tk R (by simp)) (fun h o' h' tk R => ret2 h o' _ h' tk R)

theorem back_RL0 {x dx : Addr}
  {o : Obj} {oc : List UInt8} {at_ p : Int}
  (B : Below A₀ base outer h₀) (F : Fr h₀ L s.heap m) (X : (hd.heap_1 w.params).In h₀) (T : Top topProg loose mean mg mb h₀) (hk : cs.kind = .function) (hdp : dp < 600) (hun : un < 1000)
  (N : News h₀ L s.heap news) (hx : (x, instObj 226 dx) ∈ news) (U : UpdF dx o news g) (ho : IsR w.params o oc at_ true false) (hp : p = at_ - (if false = true then 1 else 0))
  (ret : ∀ o' at' h' tk, IsR w.params o' oc at' true true → p - 1 = at' - (if true = true then 1 else 0) → Fr h₀ L h' m → News h₀ L h' (g o') → Q .none { s with heap := h', toks := tk }) :
  wpAny (model rw_on0267_01.row.prog w) (ktrTop dp un gd cn cs L a ccd cl outer) (call (.ref 104) [.ref x]) Q E s := by
  exact back_R0 B F X T hk hdp hun N hx U ho (fun o' h' tk R => ret o' _ h' tk R (by simp at hp ⊢; omega))

theorem back_RL1 {x dx : Addr}
  {o : Obj} {oc : List UInt8} {at_ p : Int}
  (B : Below A₀ base outer h₀) (F : Fr h₀ L s.heap m) (X : (hd.heap_1 w.params).In h₀) (T : Top topProg loose mean mg mb h₀) (hk : cs.kind = .function) (hdp : dp < 600) (hun : un < 1000)
  (N : News h₀ L s.heap news) (hx : (x, instObj 226 dx) ∈ news) (U : UpdF dx o news g) (ho : IsR w.params o oc at_ true true) (hp : p = at_ - (if true = true then 1 else 0))
  (ret : ∀ o' at' h' tk, IsR w.params o' oc at' true true → p = at' - (if true = true then 1 else 0) → Fr h₀ L h' m → News h₀ L h' (g o') → Q .none { s with heap := h', toks := tk }) :
  wpAny (model rw_on0267_01.row.prog w) (ktrTop dp un gd cn cs L a ccd cl outer) (call (.ref 104) [.ref x]) Q E s := by
  exact back_R1 B F X T hk hdp hun N hx U ho (fun o' h' tk R => ret o' _ h' tk R hp)

theorem avail_RL {x dx : Addr}
  {o : Obj} {oc : List UInt8} {at_ p : Int} {hl ib : Bool}
  (B : Below A₀ base outer h₀) (F : Fr h₀ L s.heap m) (X : (hd.heap_1 w.params).In h₀) (T : Top topProg loose mean mg mb h₀) (hk : cs.kind = .function) (hdp : dp < 600) (hun : un < 1000)
  (N : News h₀ L s.heap news) (hx : (x, instObj 226 dx) ∈ news) (U : UpdF dx o news g) (ho : IsR w.params o oc at_ hl ib) (hp : p = at_ - (if ib then 1 else 0))
  (ret : ∀ o' at' t h' tk, IsR w.params o' oc at' hl ib → p = at' - (if ib then 1 else 0) → Fr h₀ L h' m → News h₀ L h' (g o') → Q (.int (if (oc.length : Int) - p > 0 then (oc.length : Int) - p else -1) t) { s with heap := h', toks := tk }) :
  wpAny (model rw_on0267_01.row.prog w) (ktrTop dp un gd cn cs L a ccd cl outer) (call (.ref 209) [.ref x]) Q E s := by
  subst hp
  exact avail_R B F X T hk hdp hun N hx U ho (fun o' t h' tk R => ret o' _ t h' tk R rfl)

theorem pos_RL {x dx : Addr}
  {o : Obj} {oc : List UInt8} {at_ p : Int} {hl ib : Bool}
  (B : Below A₀ base outer h₀) (F : Fr h₀ L s.heap m) (X : (hd.heap_1 w.params).In h₀) (T : Top topProg loose mean mg mb h₀) (hk : cs.kind = .function) (hdp : dp < 600) (hun : un < 1000)
  (N : News h₀ L s.heap news) (hx : (x, instObj 226 dx) ∈ news) (U : UpdF dx o news g) (ho : IsR w.params o oc at_ hl ib) (hp : p = at_ - (if ib then 1 else 0))
  (ret : ∀ o' at' t h' tk, IsR w.params o' oc at' hl ib → p = at' - (if ib then 1 else 0) → Fr h₀ L h' m → News h₀ L h' (g o') → Q (.int p t) { s with heap := h', toks := tk }) :
  wpAny (model rw_on0267_01.row.prog w) (ktrTop dp un gd cn cs L a ccd cl outer) (call (.ref 216) [.ref x]) Q E s := by
  subst hp
  exact pos_R B F X T hk hdp hun N hx U ho (fun o' t h' tk R => ret o' _ t h' tk R rfl)

theorem setpos_RL {x dx : Addr}
  {o : Obj} {oc : List UInt8} {at_ p : Int} {hl ib : Bool} {place : Int} {tp : Tok}
  (B : Below A₀ base outer h₀) (F : Fr h₀ L s.heap m) (X : (hd.heap_1 w.params).In h₀) (T : Top topProg loose mean mg mb h₀) (hk : cs.kind = .function) (hdp : dp < 600) (hun : un < 1000)
  (N : News h₀ L s.heap news) (hx : (x, instObj 226 dx) ∈ news) (U : UpdF dx o news g) (ho : IsR w.params o oc at_ hl ib) (hp : p = at_ - (if ib then 1 else 0)) (hp0 : 0 ≤ place) (hp1 : place ≤ oc.length)
  (ret : ∀ o' at' h' tk, IsR w.params o' oc at' false false → place = at' - (if false = true then 1 else 0) → Fr h₀ L h' m → News h₀ L h' (g o') → Q .none { s with heap := h', toks := tk }) :
  wpAny (model rw_on0267_01.row.prog w) (ktrTop dp un gd cn cs L a ccd cl outer) (call (.ref 223) [.ref x, .int place tp]) Q E s := by
  subst hp
  exact setpos_R B F X T hk hdp hun N hx U ho hp0 hp1 (fun o' h' tk R => ret o' _ h' tk R (by simp))

theorem setpos_B1 {x dx : Addr}
  {o : Obj} {oc : List UInt8} {at_ : Int} {hl ib : Bool} {place : Int} {tp : Tok}
  (B : Below A₀ base outer h₀) (F : Fr h₀ L s.heap m) (X : (hd.heap_1 w.params).In h₀) (T : Top topProg loose mean mg mb h₀) (hk : cs.kind = .function) (hdp : dp < 590) (hun : un < 900)
  (N : News h₀ L s.heap news) (hx : (x, instObj 226 dx) ∈ news) (U : UpdF dx o news g) (ho : IsR w.params o oc at_ hl ib) (hbad : place < 0)
  (ret : ∀ G e de hsh k n tk tk' h', Fr h₀ L G m → RaisedE base G (envX cn cs L a ccd cl :: outer) e de ((de, toldD hsh k n #[114, 97, 110, 103, 101, 99, 104, 101, 99, 107] tk) :: g o) h' → G.UpToSlots h' → E (.ref e) { s with heap := h', toks := tk' }) :
  wpAny (model rw_on0267_01.row.prog w) (ktrTop dp un gd cn cs L a ccd cl outer) (call (.ref 223) [.ref x, .int place tp]) Q E s := by
  have hdx := upd_mem U
  obtain rfl := (updF_again U).1
  obtain ⟨num, nm, hD, h0, hat, hoc, hib, hl1⟩ := ho
  exact useZ B F X T hk (Nat.lt_of_lt_of_le hdp (by decide)) N hx hdx hD (fun own ne hO => rr_set1 (ne := ne) (hO := hO) hbad) (.cons tp .nil) ret

theorem setpos_B2 {x dx : Addr}
  {o : Obj} {oc : List UInt8} {at_ : Int} {hl ib : Bool} {place : Int} {tp : Tok}
  (B : Below A₀ base outer h₀) (F : Fr h₀ L s.heap m) (X : (hd.heap_1 w.params).In h₀) (T : Top topProg loose mean mg mb h₀) (hk : cs.kind = .function) (hdp : dp < 590) (hun : un < 900)
  (N : News h₀ L s.heap news) (hx : (x, instObj 226 dx) ∈ news) (U : UpdF dx o news g) (ho : IsR w.params o oc at_ hl ib) (hbad : (oc.length : Int) < place)
  (ret : ∀ G e de hsh k n tk tk' h', Fr h₀ L G m → RaisedE base G (envX cn cs L a ccd cl :: outer) e de ((de, toldD hsh k n #[105, 111, 101, 114, 114, 111, 114] tk) :: g o) h' → G.UpToSlots h' → E (.ref e) { s with heap := h', toks := tk' }) :
  wpAny (model rw_on0267_01.row.prog w) (ktrTop dp un gd cn cs L a ccd cl outer) (call (.ref 223) [.ref x, .int place tp]) Q E s := by
  have hdx := upd_mem U
  obtain rfl := (updF_again U).1
  obtain ⟨num, nm, hD, h0, hat, hoc, hib, hl1⟩ := ho
  exact useZ B F X T hk (Nat.lt_of_lt_of_le hdp (by decide)) N hx hdx hD (fun own ne hO => rr_set2 (ne := ne) (hO := hO) hbad hoc) (.cons tp .nil) ret
end
section -- RefOk
variable {w : World} {A₀ : Around} {base h₀ : Heap} {outer : List Env} {L a : Addr} {m : Str → Option Value} {news : List (Addr × Obj)} {g : Obj → List (Addr × Obj)} {s : Shared} {Q E : Value → Shared → Prop} {dp un : Nat} {gd : Option (List Code)} {cn : Str} {cs : Scope} {ccd : Value} {cl : List (Str × Addr)} {loose : List Str} {mean : ExcName → Option Value} {mg mb : Str → Option Value}
noncomputable def Accepts (w : World) (base : Heap) (dp un : Nat) (gd : Option (List Code)) (env : Env) (outer : List Env) (loose : List Str) (mean : ExcName → Option Value) (mg mb : Str → Option Value) (deed : Value) {τ : Type} (P : τ → Prop) (news : List (Addr × Obj)) (news' : τ → List (Addr × Obj)) : Prop :=
  ∀ (g : Heap) (L' : Addr) (m' : Str → Option Value) (s : Shared) (Q E : Value → Shared → Prop),
    Below { handled := none, depth := dp, frames := some (env :: outer), guards := gd, units := un } base (env :: outer) g → Fr g L' s.heap m' → (hd.heap_1 w.params).In g → News g L' s.heap news → Top topProg loose mean mg mb g →
    (∀ (c : τ) (h' : Heap) (tk : Tok), P c → Fr g L' h' m' → News g L' h' (news' c) → Q .none { s with heap := h', toks := tk }) →
    wpAny (model rw_on0267_01.row.prog w) (Around.deeper { handled := none, depth := dp, frames := some (env :: outer), guards := gd, units := un } (refEnv L')) (callWith refPos deed [] (backTo refPos (starEach [] (refEnv L'))) []) Q E s
theorem refused_ok {deed : Value} {τ : Type} {P : τ → Prop} {news' : τ → List (Addr × Obj)}
  (B : Below A₀ base outer h₀) (F : Fr h₀ L s.heap m) (X : (hd.heap_1 w.params).In h₀) (T : Top topProg loose mean mg mb h₀) (hk : cs.kind = .function) (hdp : dp < 600) (hun : un < 1000)
  (N : News h₀ L s.heap news)
  (H : Accepts w base dp un gd (envX cn cs L a ccd cl) outer loose mean mg mb deed P news news')
  (ret : ∀ c h' tk, P c → Fr h₀ L h' m → News h₀ L h' (news' c) → Q .none { s with heap := h', toks := tk }) :
  wpAny (model rw_on0267_01.row.prog w) (ktrTop dp un gd cn cs L a ccd cl outer) (call (.ref 423) [deed]) Q E s := by
  revert X
  k_fill
  intro X
  k_steps
  refine H _ _ _ _ _ _ (by assumption) (by assumption) (by assumption) (by assumption) (by assumption) fun c h9 tk9 hc F9 N9 => ?_
  k_steps
  (rename Fr h₀ L _ m => F8); (rename News h₀ L _ _ => N8)
  exact ret c _ _ hc F8 N8
end
section -- PS
section
open PySem.W PyProof PyProof.V PySem.Calls PySem.Spec
noncomputable def mp (l : List (Str × Value)) (m : Str → Option Value) (y : Str) : Option Value := match l.lookup y with | some v => some v | none => m y
theorem mp_cons {l : List (Str × Value)} {m : Str → Option Value} {x : Str} {v : Value} : (fun y => if y = x then some v else mp l m y) = mp ((x, v) :: l) m := by
  funext y
  unfold mp
  rw [List.lookup_cons]
  by_cases h : y = x
  · rw [if_pos h, show (y == x) = true from beq_iff_eq.mpr h]
  · rw [if_neg h, show (y == x) = false from beq_eq_false_iff_ne.mpr h]
theorem mp_other {l : List (Str × Value)} {m : Str → Option Value} {z : Str} (h : ∀ p ∈ l, z ≠ p.1) : mp l m z = m z := by
  have e : l.lookup z = none := by
    induction l with
    | nil => rfl
    | cons p t ih =>
      rw [List.lookup_cons, show (z == p.1) = false from beq_eq_false_iff_ne.mpr (h p (.head _))]
      exact ih fun q hq => h q (.tail _ hq)
  unfold mp
  rw [e]
variable {prog : Program} {w : World} {M : Model} {A : Around} {env : Env} {g : Heap} {L a : Addr} {m : Str → Option Value} {l : List (Str × Value)} {nw : List (Addr × Obj)} {cn : Str} {cs : Scope} {ccd : Value} {cl : List (Str × Addr)}
  {x y : Str} {pos pos1 pos2 pos3 pos4 : Pos} {v : Value} {e e1 e2 e3 : Expr} {x1 x2 x3 : AV} {c : Addr} {o : Obj} {q q1 q2 : Bool} {cop : CmpOp} {s : Shared} {hh : Heap} {gn : Array GenState} {dr : Drawn} {tk0 : Nat} {os : OsState} {Q : Flow → Shared → Prop} {E : Value → Shared → Prop} {rest body orelse : List Stmt} {t : Tok}
theorem stL {Q : Unit → Shared → Prop} (F : Fr g L hh (mp l m)) (N : News g L hh nw) (H : ∀ h tk, Fr g L h (mp ((x, v) :: l) m) → News g L h nw → Q () (Shared.mk h gn dr tk os))
    (hk : cs.kind = .function := by rfl) (hx : (envX cn cs L a ccd cl).kindOf x = some .local := by rfl) : wpAny M A (storeName (envX cn cs L a ccd cl) x v) Q E (Shared.mk hh gn dr tk0 os) :=
  storeX_L F N (fun h' F' N' => H h' _ (mp_cons ▸ F') N') hk hx
theorem St.asg (F : Fr g L hh (mp l m)) (N : News g L hh nw) (p : PE M A (envX cn cs L a ccd cl) g L (mp l m) nw e x1)
    (H : ∀ h tk t, Fr g L h (mp ((x, x1.v t) :: l) m) → News g L h nw → wpAny M A (execs rest (envX cn cs L a ccd cl)) Q E (Shared.mk h gn dr tk os))
    (hs : swapsWith e (some (Expr.Name x pos1)) pos.line (envX cn cs L a ccd cl) = pure false := by rfl) (hk : cs.kind = .function := by rfl) (hx : (envX cn cs L a ccd cl).kindOf x = some .local := by rfl) :
    wpAny M A (execs (.Assign [.Name x pos1] e pos :: rest) (envX cn cs L a ccd cl)) Q E (Shared.mk hh gn dr tk0 os) :=
  wpAny_execs_cons (wpAny_Assign_Name (p.run _ _ E F N fun h tk t F1 N1 => stL F1 N1 (fun h' tk' F2 N2 => H h' tk' t F2 N2) hk hx) hs)
theorem St.asgI (H : wpAny M A (eval e env) (fun v s1 => wpAny M A (storeName env x v) (fun _ s2 => wpAny M A (execs rest env) Q E s2) E s1) E (Shared.mk hh gn dr tk0 os)) (hs : swapsWith e (some (Expr.Name x pos1)) pos.line env = pure false := by rfl) :
    wpAny M A (execs (.Assign [.Name x pos1] e pos :: rest) env) Q E (Shared.mk hh gn dr tk0 os) := wpAny_execs_cons (wpAny_Assign_Name H hs)
theorem St.asg2 {k1 k2 : Nat} (F : Fr g L hh (mp l m)) (N : News g L hh nw) (p1 : PE (model prog w) A (envX cn cs L a ccd cl) g L (mp l m) nw e1 x1) (p2 : PE (model prog w) A (envX cn cs L a ccd cl) g L (mp l m) nw e2 x2)
    (H : ∀ h tk t t', Fr g L h (mp ((x, x1.v t) :: (y, x2.v t') :: l) m) → News g L h nw → wpAny (model prog w) A (execs rest (envX cn cs L a ccd cl)) Q E (Shared.mk h gn dr tk os))
    (hA : A.handled = none := by rfl)
    (hs1 : swapsWithSole [Expr.Tuple [.Name x pos1, .Name y pos2] k1 pos3] (.Tuple [e1, e2] k2 pos4) pos.line (envX cn cs L a ccd cl) = pure false := by rfl) (hs2 : swappedStores [Expr.Tuple [.Name x pos1, .Name y pos2] k1 pos3] (.Tuple [e1, e2] k2 pos4) (envX cn cs L a ccd cl) = pure (some [x, y]) := by rfl)
    (ha : starEach [e1, e2] (envX cn cs L a ccd cl) = (false, eval e1 (envX cn cs L a ccd cl)) :: starEach [e2] (envX cn cs L a ccd cl) := by rfl) (hb : starEach [e2] (envX cn cs L a ccd cl) = (false, eval e2 (envX cn cs L a ccd cl)) :: starEach [] (envX cn cs L a ccd cl) := by rfl)
    (hk : cs.kind = .function := by rfl) (hx : (envX cn cs L a ccd cl).kindOf x = some .local := by rfl) (hy : (envX cn cs L a ccd cl).kindOf y = some .local := by rfl) :
    wpAny (model prog w) A (execs (.Assign [.Tuple [.Name x pos1, .Name y pos2] k1 pos3] (.Tuple [e1, e2] k2 pos4) pos :: rest) (envX cn cs L a ccd cl)) Q E (Shared.mk hh gn dr tk0 os) := by
  refine wpAny_execs_cons (Assign_Tuple_swapped (names := [x, y]) (PyProof.Rows.Tuple_ (args_cons (p1.run _ _ E F N fun h tk t F1 N1 => args_cons (p2.run _ _ E F1 N1 fun h2 tk2 t2 F2 N2 => args_nil ?_) hb) ha)) hs1 hs2)
  refine kup_newTuple F2 N2 (fun D h3 F3 N3 lt => ?_) (by rw [sizeLine_eq]; exact Nat.le_of_ble_eq_true rfl)
  refine unpackItemsN_ (items := #[x1.v t, x2.v t2]) F3 N3 (News.isTup N3 (.head _)) hA rfl (fun h4 F4 N4 => ?_)
  refine assignInOrder_cons (bindName_ (stL F4 N4 (fun h5 tk5 F5 N5 => ?_) hk hy))
  refine assignInOrder_cons (bindName_ (stL F5 N5 (fun h6 tk6 F6 N6 => ?_) hk hx))
  exact assignInOrder_nil (H h6 tk6 t t2 F6 fun p hp => N6 p (.tail _ hp))
noncomputable def Kn (M : Model) (A : Around) (env : Env) (rest : List Stmt) (Q : Flow → Shared → Prop) (E : Value → Shared → Prop) (f : Flow) (s' : Shared) : Prop := match f with | .next => wpAny M A (execs rest env) Q E s' | f => Q f s'
theorem St.ifT (F : Fr g L hh m) (N : News g L hh nw) (p : PT M A env g L m nw e true)
    (H : ∀ h tk, Fr g L h m → News g L h nw → wpAny M A (execs body env) (Kn M A env rest Q E) E (Shared.mk h gn dr tk os)) : wpAny M A (execs (.If e body orelse pos :: rest) env) Q E (Shared.mk hh gn dr tk0 os) :=
  wpAny_execs_cons (wpAny_If (p.run _ _ E _ F N (fun h tk F1 N1 => by rw [if_pos rfl]; exact H h tk F1 N1) rfl))
theorem St.ifTl (F : Fr g L hh m) (N : News g L hh nw) (p : PT M A env g L m nw e true) (H : ∀ h tk, Fr g L h m → News g L h nw → wpAny M A (execs body env) Q E (Shared.mk h gn dr tk os)) :
    wpAny M A (execs [.If e body orelse pos] env) Q E (Shared.mk hh gn dr tk0 os) :=
  St.ifT F N p fun h tk F1 N1 => wpAny_mono (H h tk F1 N1) (fun f s' k => match f, k with | .next, k => wpAny_execs_nil k | .ret _, k => k | .brk, k => k | .cont, k => k) fun _ _ k => k
theorem St.ifFl (F : Fr g L hh m) (N : News g L hh nw) (p : PT M A env g L m nw e false) (H : ∀ h tk, Fr g L h m → News g L h nw → wpAny M A (execs orelse env) Q E (Shared.mk h gn dr tk os)) :
    wpAny M A (execs [.If e body orelse pos] env) Q E (Shared.mk hh gn dr tk0 os) :=
  wpAny_execs_cons (wpAny_If (p.run _ _ E _ F N (fun h tk F1 N1 => by
    rw [if_neg (by decide)]
    exact wpAny_mono (H h tk F1 N1) (fun f s' k => match f, k with | .next, k => wpAny_execs_nil k | .ret _, k => k | .brk, k => k | .cont, k => k) fun _ _ k => k) rfl))
theorem St.ifN (F : Fr g L hh m) (N : News g L hh nw) (p : PT M A env g L m nw e false) (H : ∀ h tk, Fr g L h m → News g L h nw → wpAny M A (execs rest env) Q E (Shared.mk h gn dr tk os)) :
    wpAny M A (execs (.If e body [] pos :: rest) env) Q E (Shared.mk hh gn dr tk0 os) :=
  wpAny_execs_cons (wpAny_If (p.run _ _ E _ F N (fun h tk F1 N1 => by
    rw [if_neg (by decide)]
    exact wpAny_execs_nil (H h tk F1 N1)) rfl))
theorem St.ifR (F : Fr g L hh m) (N : News g L hh nw) (p : PT M A env g L m nw e true) (H : ∀ h tk, Fr g L h m → News g L h nw → wpAny M A (eval e1 env) (fun v s' => Q (.ret v) s') E (Shared.mk h gn dr tk os)) :
    wpAny M A (execs (.If e [.Return (some e1) pos1] orelse pos :: rest) env) Q E (Shared.mk hh gn dr tk0 os) :=
  St.ifT F N p fun h tk F1 N1 => wpAny_execs_cons (wpAny_Return_some (wpAny_mono (H h tk F1 N1) (fun _ _ k => k) fun _ _ k => k))
theorem St.ret (H : wpAny M A (eval e1 env) (fun v s' => Q (.ret v) s') E (Shared.mk hh gn dr tk0 os)) : wpAny M A (execs (.Return (some e1) pos1 :: rest) env) Q E (Shared.mk hh gn dr tk0 os) :=
  wpAny_execs_cons (wpAny_Return_some (wpAny_mono H (fun _ _ k => k) fun _ _ k => k))
theorem St.exp (H : wpAny (model prog w) A (eval e env) (fun _ s' => wpAny (model prog w) A (execs rest env) Q E s') E (Shared.mk hh gn dr tk0 os)) (hi : interactive env = false := by rfl) (hs : swapsWith e none pos.line env = pure false := by rfl) :
    wpAny (model prog w) A (execs (.Expr e pos :: rest) env) Q E (Shared.mk hh gn dr tk0 os) := wpAny_execs_cons (wpAny_Expr_any H hi hs)
noncomputable def CmpR (M : Model) (A : Around) (env : Env) (cop : CmpOp) (a : Value) (e2 : Expr) (Q : Bool → Shared → Prop) (E : Value → Shared → Prop) (s1 : Shared) : Prop :=
  wpAny M A (eval e2 env) (fun b s2 => wpAny M A (compareOp cop a b) (fun c s3 => wpAny M A (truthy c) Q E s3) E s2) E s1
theorem CmpR.use {Q : Bool → Shared → Prop} (F : Fr g L hh m) (N : News g L hh nw) (p : PE M A env g L m nw e2 x2) (r : Cm M A cop x1 x2 q) (H : ∀ h tk, Fr g L h m → News g L h nw → Q q (Shared.mk h gn dr tk os)) : CmpR M A env cop (x1.v t) e2 Q E (Shared.mk hh gn dr tk0 os) :=
  p.run _ _ E F N fun h tk t' F1 N1 => r.run _ _ E t t' (wpAny_truthy_bool (H h tk F1 N1))
noncomputable def IfR (M : Model) (A : Around) (env : Env) (body orelse rest : List Stmt) (Q : Flow → Shared → Prop) (E : Value → Shared → Prop) (b : Bool) (s : Shared) : Prop :=
  match b with
  | true => wpAny M A (execs body env) (fun f s' => match f with | .next => wpAny M A (execs rest env) Q E s' | f => Q f s') E s
  | false => wpAny M A (execs orelse env) (fun f s' => match f with | .next => wpAny M A (execs rest env) Q E s' | f => Q f s') E s
theorem IfR.no (H : wpAny M A (execs rest env) Q E s) : IfR M A env body [] rest Q E false s := wpAny_execs_nil H
theorem IfR.noL (H : Q .next s) : IfR M A env body [] [] Q E false s := wpAny_execs_nil (wpAny_execs_nil H)
theorem St.ifI (H : wpAny M A (PySem.isTrue e env (eval e env)) (fun b s' => IfR M A env body orelse rest Q E b s') E (Shared.mk hh gn dr tk0 os)) : wpAny M A (execs (.If e body orelse pos :: rest) env) Q E (Shared.mk hh gn dr tk0 os) :=
  wpAny_execs_cons (wpAny_If (wpAny_mono H (fun b s' k => by
    cases b with
    | true => rw [if_pos rfl]; exact k
    | false => rw [if_neg (by decide)]; exact k) fun _ _ k => k))
theorem St.ifC (H : wpAny M A (eval e1 env) (fun a s1 => CmpR M A env cop a e2 (fun b s' => IfR M A env body orelse rest Q E b s') E s1) E (Shared.mk hh gn dr tk0 os)) (hb : behindInMarks cop e2 = false := by rfl) : wpAny M A (execs (.If (.Compare e1 [cop] [e2] pos1) body orelse pos :: rest) env) Q E (Shared.mk hh gn dr tk0 os) :=
  St.ifI (wpAny_isTrue_Compare1 H hb)
theorem St.ifOC {e4 : Expr} {cop2 : CmpOp} (H : wpAny M A (eval e1 env) (fun a s1 => CmpR M A env cop a e2 (fun b s' => b = false ∧ wpAny M A (eval e3 env) (fun a s1 => CmpR M A env cop2 a e4 (fun b s' => IfR M A env body orelse rest Q E b s') E s1) E s') E s1) E (Shared.mk hh gn dr tk0 os)) (hb : behindInMarks cop e2 = false := by rfl) (hb2 : behindInMarks cop2 e4 = false := by rfl) :
    wpAny M A (execs (.If (.BoolOp .Or [.Compare e1 [cop] [e2] pos1, .Compare e3 [cop2] [e4] pos2] pos3) body orelse pos :: rest) env) Q E (Shared.mk hh gn dr tk0 os) := by
  refine St.ifI (isTrue_or (wpAny_mono (wpAny_isTrue_Compare1 H hb) (fun b s' k => ?_) fun _ _ k => k))
  obtain ⟨rfl, k⟩ := k
  rw [if_neg (by decide)]
  refine isTrue_or (wpAny_mono (wpAny_isTrue_Compare1 k hb2) (fun b s' k => ?_) fun _ _ k => k)
  cases b with
  | true => rw [if_pos rfl]; exact k
  | false => rw [if_neg (by decide)]; exact isTrue_or_nil k
theorem and_cons {es : List Expr} {Q : Value → Shared → Prop} (F : Fr g L hh m) (N : News g L hh nw) (p : PE M A env g L m nw e1 (.val (.bool true))) (H : ∀ h tk, Fr g L h m → News g L h nw → wpAny M A (eval (.BoolOp .And (e2 :: es) pos) env) Q E (Shared.mk h gn dr tk os)) :
    wpAny M A (eval (.BoolOp .And (e1 :: e2 :: es) pos) env) Q E (Shared.mk hh gn dr tk0 os) :=
  BoolOp_and (p.run _ _ E F N fun h tk t F1 N1 => wpAny_truthy_bool (by rw [if_pos rfl]; exact H h tk F1 N1))
theorem and_consI {es : List Expr} {Q : Value → Shared → Prop} (H : wpAny M A (eval e1 env) (fun v s' => v = .bool true ∧ wpAny M A (eval (.BoolOp .And (e2 :: es) pos) env) Q E s') E (Shared.mk hh gn dr tk0 os)) :
    wpAny M A (eval (.BoolOp .And (e1 :: e2 :: es) pos) env) Q E (Shared.mk hh gn dr tk0 os) :=
  BoolOp_and (wpAny_mono H (fun v s' k => by
    obtain ⟨rfl, k⟩ := k
    exact wpAny_truthy_bool (by rw [if_pos rfl]; exact k)) fun _ _ k => k)
noncomputable def NoM (o : Obj) (name : Str) : Prop := ∃ es n, o = dictOf es n ∧ getL name es = some none
variable {K : Frag} {p : Program} {loose : List Str} {mean : ExcName → Option Value} {mg mb : Str → Option Value} {f : Addr} {ix C dx : Addr} {name : Str} {QV : Value → Shared → Prop}
theorem meth0 (F : Fr g L hh m) (N : News g L hh nw) (X : K.In g) (pe : PE (model prog w) A env g L m nw e (.val (.ref ix))) (hi : (ix, instObj C dx) ∈ nw) (hd : (dx, o) ∈ nw) (ho : NoM o name)
    (h1 : plainGet K C name = true) (h2 : findIn K (.ref C) name = some (some (.ref f))) (h3 : isFn K (.ref f) = true) (h4 : keepIn K (.ref f) = true)
    (H : ∀ h tk, Fr g L h m → News g L h nw → wpAny (model prog w) A (call (.ref f) [.ref ix]) QV E (Shared.mk h gn dr tk os)) {pl : Sem Bool}
    (he : eval (.Call (.Attribute e name pos1) [] [] pos) env = (do
      let ov ← eval e env
      standAt pos1.atName
      let (f, first) ← holding [ov] (getMethod ov name pl)
      callWith pos f first (backTo pos (starEach [] env)) []) := by rfl) :
    wpAny (model prog w) A (eval (.Call (.Attribute e name pos1) [] [] pos) env) QV E (Shared.mk hh gn dr tk0 os) := by
  obtain ⟨es, n, rfl, hg⟩ := ho
  exact MethodCall_ (pe.run _ _ E F N fun h tk t F1 N1 => method_inst F1 X (InstAt.of_news N1 hi hd) h1 h2 h3 hg (callWith_K0 (X.keeps F1.keep) h4 (H h tk F1 N1))) he
theorem meth1 (F : Fr g L hh m) (N : News g L hh nw) (X : K.In g) (pe : PE (model prog w) A env g L m nw e (.val (.ref ix))) (p1 : PE (model prog w) A env g L m nw e1 x1) (hi : (ix, instObj C dx) ∈ nw) (hd : (dx, o) ∈ nw) (ho : NoM o name)
    (h1 : plainGet K C name = true) (h2 : findIn K (.ref C) name = some (some (.ref f))) (h3 : isFn K (.ref f) = true) (h4 : keepIn K (.ref f) = true)
    (H : ∀ h tk t, Fr g L h m → News g L h nw → wpAny (model prog w) A (call (.ref f) [.ref ix, x1.v t]) QV E (Shared.mk h gn dr tk os)) {pl : Sem Bool}
    (he : eval (.Call (.Attribute e name pos1) [e1] [] pos) env = (do
      let ov ← eval e env
      standAt pos1.atName
      let (f, first) ← holding [ov] (getMethod ov name pl)
      callWith pos f first (backTo pos (starEach [e1] env)) []) := by rfl)
    (ha : starEach [e1] env = (false, eval e1 env) :: starEach [] env := by rfl) :
    wpAny (model prog w) A (eval (.Call (.Attribute e name pos1) [e1] [] pos) env) QV E (Shared.mk hh gn dr tk0 os) := by
  obtain ⟨es, n, rfl, hg⟩ := ho
  exact MethodCall_ (pe.run _ _ E F N fun h tk t F1 N1 => method_inst F1 X (InstAt.of_news N1 hi hd) h1 h2 h3 hg (callWith_K X h4 (args_cons (p1.run _ _ E F1 N1 fun h2 tk2 t2 F2 N2 => args_nil ⟨X.keeps F2.keep, H h2 tk2 t2 F2 N2⟩) ha) ha rfl)) he
theorem fun1 (F : Fr g L hh m) (N : News g L hh nw) (X : K.In g) (T : TopRead p loose mg mb g) (h1 : nsIn K mainGlobals x = some (some (.ref f))) (h4 : keepIn K (.ref f) = true) (p1 : PE M A (envX cn cs L a ccd cl) g L m nw e1 x1)
    (H : ∀ h tk t, Fr g L h m → News g L h nw → wpAny M A (call (.ref f) [x1.v t]) QV E (Shared.mk h gn dr tk os))
    (he : eval (.Call (.Name x pos1) [e1] [] pos) (envX cn cs L a ccd cl) = (do
        let f1 ← eval (.Name x pos1) (envX cn cs L a ccd cl)
        callWith pos f1 [] (backTo pos (starEach [e1] (envX cn cs L a ccd cl))) (backToKw pos (keywordEach [] (envX cn cs L a ccd cl)))) := by rfl)
    (ha : starEach [e1] (envX cn cs L a ccd cl) = (false, eval e1 (envX cn cs L a ccd cl)) :: starEach [] (envX cn cs L a ccd cl) := by rfl)
    (hk : cs.kind = .function := by rfl) (hx : (envX cn cs L a ccd cl).kindOf x = some .globalImplicit := by rfl) (hd : (x == ("__debug__" : Str)) = false := by decide) :
    wpAny M A (eval (.Call (.Name x pos1) [e1] [] pos) (envX cn cs L a ccd cl)) QV E (Shared.mk hh gn dr tk0 os) :=
  Call_ (nameX_K F X T h1 (callWith_K X h4 (args_cons (p1.run _ _ E F N fun h2 tk2 t2 F2 N2 => args_nil ⟨X.keeps F2.keep, H h2 tk2 t2 F2 N2⟩) ha) ha rfl) hk hx hd) he
theorem fun2 (F : Fr g L hh m) (N : News g L hh nw) (X : K.In g) (T : TopRead p loose mg mb g) (h1 : nsIn K mainGlobals x = some (some (.ref f))) (h4 : keepIn K (.ref f) = true) (p1 : PE M A (envX cn cs L a ccd cl) g L m nw e1 x1) (p2 : PE M A (envX cn cs L a ccd cl) g L m nw e2 x2)
    (H : ∀ h tk t t', Fr g L h m → News g L h nw → wpAny M A (call (.ref f) [x1.v t, x2.v t']) QV E (Shared.mk h gn dr tk os))
    (he : eval (.Call (.Name x pos1) [e1, e2] [] pos) (envX cn cs L a ccd cl) = (do
        let f1 ← eval (.Name x pos1) (envX cn cs L a ccd cl)
        callWith pos f1 [] (backTo pos (starEach [e1, e2] (envX cn cs L a ccd cl))) (backToKw pos (keywordEach [] (envX cn cs L a ccd cl)))) := by rfl)
    (ha : starEach [e1, e2] (envX cn cs L a ccd cl) = (false, eval e1 (envX cn cs L a ccd cl)) :: starEach [e2] (envX cn cs L a ccd cl) := by rfl) (hb : starEach [e2] (envX cn cs L a ccd cl) = (false, eval e2 (envX cn cs L a ccd cl)) :: starEach [] (envX cn cs L a ccd cl) := by rfl)
    (hp : (backTo pos (starEach [e2] (envX cn cs L a ccd cl))).any (·.1) = false := by rfl)
    (hk : cs.kind = .function := by rfl) (hx : (envX cn cs L a ccd cl).kindOf x = some .globalImplicit := by rfl) (hd : (x == ("__debug__" : Str)) = false := by decide) :
    wpAny M A (eval (.Call (.Name x pos1) [e1, e2] [] pos) (envX cn cs L a ccd cl)) QV E (Shared.mk hh gn dr tk0 os) :=
  Call_ (nameX_K F X T h1 (callWith_K X h4 (args_cons (p1.run _ _ E F N fun h2 tk2 t2 F2 N2 => args_cons (p2.run _ _ E F2 N2 fun h3 tk3 t3 F3 N3 => args_nil ⟨X.keeps F3.keep, H h3 tk3 t2 t3 F3 N3⟩) hb) ha) ha hp) hk hx hd) he
theorem noM_R {P : Params} {o : Obj} {oc : List UInt8} {at_ : Int} {hl ib : Bool} {name : Str} (h : IsR P o oc at_ hl ib) (e : name ∈ [Str.ofString "next", Str.ofString "read", Str.ofString "read_line", Str.ofString "available", Str.ofString "position", Str.ofString "back", Str.ofString "set_position", Str.ofString "close"]) : NoM o name := by
  refine h.elim ?_
  intros
  rename o = _ => h9
  subst h9
  simp only [List.mem_cons, List.not_mem_nil, or_false] at e
  rcases e with rfl | rfl | rfl | rfl | rfl | rfl | rfl | rfl
  all_goals exact ⟨_, _, rfl, by k_get⟩
end
end
section -- PS2
theorem kw_23 : True := by
  w_top off
  k_with "call ref" => (k_here; (with_reducible show wpAny _ _ (call (Value.ref 423) [Value.ref _]) _ _ _); k_dflt (refine' refused_raise ?B ?F ?X ?T ?hk ?hd ?hu ?XB ?TB ?D ?N ?H ?_; (case N => k_asm); (case F => k_asm); (case B => k_asm); (case X => k_asm); (case T => k_asm); (case XB => assumption); (case TB => assumption); (case D => assumption); (case hk => first | exact rfl | assumption); (case hd => walk_at "hd9"); (case hu => walk_at "hu9")); (rotate_left); (intro h₀' h' tk tkv KT F' N' B' X' T' D'); (try dsimp only); (try k_lift B'); (try k_sweep))
  trivial
section
open PySem.W PyProof PyProof.V PySem.Calls PySem.Spec
variable {prog : Program} {w : World} {M : Model} {A : Around} {env : Env} {g : Heap} {L a : Addr} {m : Str → Option Value} {l : List (Str × Value)} {nw : List (Addr × Obj)} {cn : Str} {cs : Scope} {ccd : Value} {cl : List (Str × Addr)}
  {x y z : Str} {pos pos1 pos2 pos3 pos4 : Pos} {v : Value} {e e1 e2 e3 : Expr} {x1 x2 x3 : AV} {c : Addr} {o : Obj} {q q1 q2 : Bool} {cop : CmpOp} {s : Shared} {hh : Heap} {gn : Array GenState} {dr : Drawn} {tk0 : Nat} {os : OsState} {Q : Flow → Shared → Prop} {QV E : Value → Shared → Prop} {rest body orelse : List Stmt} {t : Tok} {n k i j : Int}
theorem Cm.cast (r : Cm M A cop x1 x2 q1) (h : q1 = q2) : Cm M A cop x1 x2 q2 := h ▸ r
theorem PE.ife (p : PT M A env g L m nw e1 q) (p2 : PE M A env g L m nw e2 (.int n)) (p3 : PE M A env g L m nw e3 (.int k)) : PE M A env g L m nw (.IfExp e1 e2 e3 pos) (.int (if q = true then n else k)) := by
  cases q with
  | true => rw [if_pos rfl]; exact PE.if1 p p2
  | false => rw [if_neg (by decide)]; exact PE.if2 p p3
theorem stC {Q : Unit → Shared → Prop} {gt : Obj → List (Addr × Obj)} {v₀ : Option Value} (F : Fr g L hh m) (N : News g L hh nw) (U : UpdF c o nw gt) (hd : o.data = .cell v₀)
    (H : ∀ h tk o', Fr g L h m → News g L h (gt o') → o'.data = .cell (some v) → Q () (Shared.mk h gn dr tk os)) (hc : cl.lookup x = some c) (hk : cs.kind = .function := by rfl) (hx : (envX cn cs L a ccd cl).kindOf x = some .cell := by rfl) :
    wpAny M A (storeName (envX cn cs L a ccd cl) x v) Q E (Shared.mk hh gn dr tk0 os) := storeX_C F N hc U hd (fun h' o' F' N' d => H h' _ o' F' N' d) hk hx
theorem PE.menu2 (p1 : PE (model prog w) A env g L m nw e1 (.int n)) (p2 : PE (model prog w) A env g L m nw e2 (.int k)) (p3 : ∀ nw', PE (model prog w) A env g L m nw' e3 (.int i)) (h0 : 0 ≤ i) (h1 : i < 2)
    (ha : starEach [e1, e2] env = (false, eval e1 env) :: starEach [e2] env := by rfl) (hb : starEach [e2] env = (false, eval e2 env) :: starEach [] env := by rfl)
    (hs : ∀ ad u, subscripted e3 false (.ref ad) (.int i u) = operate [.ref ad, .int i u] (getItem (.ref ad) (.int i u)) := by intro _ _; with_unfolding_all rfl) :
    PE (model prog w) A env g L m nw (.Subscript (.List [e1, e2] pos1) e3 pos) (.int ([n, k].getD i.toNat 0)) := .mk fun s Q E F N H => by
  refine Subscript_ (PyProof.Rows.List_ (args_cons (p1.run _ _ E F N fun h tk t F1 N1 => args_cons (p2.run _ _ E F1 N1 fun h2 tk2 t2 F2 N2 => args_nil ?_) hb) ha))
  refine newList_K F2 N2 (fun D h3 F3 N3 lt => ?_) (by rw [sizeLine_eq]; exact Nat.le_of_ble_eq_true rfl)
  refine (p3 _).run _ _ E F3 N3 fun h4 tk4 t4 F4 N4 => ?_
  exact item_anyK (News.isList N4 (.head _)) (.cons n t (.cons k t2 .nil)) h0 (by simp only [List.length_cons, List.length_nil]; omega) (by omega) (fun tt => H h4 tk4 tt F4 fun p hp => N4 p (.tail _ hp)) (hs _ _)
theorem unp3 {QU : Unit → Shared → Prop} {k1 : Nat} {D : Addr} {v1 v2 v3 : Value} (F : Fr g L hh (mp l m)) (N : News g L hh nw) (hD : (D, { cls := .type "tuple", data := .seq #[v1, v2, v3] }) ∈ nw)
    (H : ∀ h tk, Fr g L h (mp ((z, v3) :: (y, v2) :: (x, v1) :: l) m) → News g L h nw → QU () (Shared.mk h gn dr tk os))
    (hA : A.handled = none := by rfl) (hl : (assignEach [.Name x pos1, .Name y pos2, .Name z pos3] (envX cn cs L a ccd cl)).length = 3 := by rfl) (hf : List.findIdx? (fun x => x.1) (assignEach [.Name x pos1, .Name y pos2, .Name z pos3] (envX cn cs L a ccd cl)) = none := by rfl)
    (hm : List.map (fun x => x.2) (assignEach [.Name x pos1, .Name y pos2, .Name z pos3] (envX cn cs L a ccd cl)) = [assign (.Name x pos1) (envX cn cs L a ccd cl), assign (.Name y pos2) (envX cn cs L a ccd cl), assign (.Name z pos3) (envX cn cs L a ccd cl)] := by rfl)
    (hk : cs.kind = .function := by rfl) (hx : (envX cn cs L a ccd cl).kindOf x = some .local := by rfl) (hy : (envX cn cs L a ccd cl).kindOf y = some .local := by rfl) (hz : (envX cn cs L a ccd cl).kindOf z = some .local := by rfl) :
    wpAny (model prog w) A (assign (.Tuple [.Name x pos1, .Name y pos2, .Name z pos3] k1 pos) (envX cn cs L a ccd cl) (.ref D)) QU E (Shared.mk hh gn dr tk0 os) := by
  refine unpackN_ F N (News.isTup N hD) hA hl hf (fun h1 F1 N1 => ?_)
  rw [hm]
  refine assignInOrder_cons (PyProof.Rows.assign_Name (stL F1 N1 (fun h2 tk2 F2 N2 => ?_) hk hx))
  refine assignInOrder_cons (PyProof.Rows.assign_Name (stL F2 N2 (fun h3 tk3 F3 N3 => ?_) hk hy))
  refine assignInOrder_cons (PyProof.Rows.assign_Name (stL F3 N3 (fun h4 tk4 F4 N4 => ?_) hk hz))
  exact assignInOrder_nil (H _ _ F4 N4)
theorem St.asgT {elts : List Expr} {k1 : Nat} (H : wpAny M A (eval e env) (fun v s1 => wpAny M A (assign (.Tuple elts k1 pos1) env v) (fun _ s2 => wpAny M A (execs rest env) Q E s2) E s1) E (Shared.mk hh gn dr tk0 os))
    (h1 : swapsWithSole [Expr.Tuple elts k1 pos1] e pos.line env = pure false := by rfl) (h2 : swappedStores [Expr.Tuple elts k1 pos1] e env = pure none := by rfl) : wpAny M A (execs (.Assign [.Tuple elts k1 pos1] e pos :: rest) env) Q E (Shared.mk hh gn dr tk0 os) :=
  wpAny_execs_cons (Assign_Tuple H h1 h2)
variable {K : Frag} {p : Program} {loose : List Str} {mean : ExcName → Option Value} {mg mb : Str → Option Value} {f : Addr}
theorem fun1I (F : Fr g L hh m) (X : K.In g) (T : TopRead p loose mg mb g) (h1 : nsIn K mainGlobals x = some (some (.ref f))) (h4 : keepIn K (.ref f) = true)
    (H : wpAny M A (eval e1 (envX cn cs L a ccd cl)) (fun v s1 => K.In s1.heap ∧ wpAny M A (call (.ref f) [v]) QV E s1) E (Shared.mk hh gn dr tk0 os))
    (he : eval (.Call (.Name x pos1) [e1] [] pos) (envX cn cs L a ccd cl) = (do
        let f1 ← eval (.Name x pos1) (envX cn cs L a ccd cl)
        callWith pos f1 [] (backTo pos (starEach [e1] (envX cn cs L a ccd cl))) (backToKw pos (keywordEach [] (envX cn cs L a ccd cl)))) := by rfl)
    (ha : starEach [e1] (envX cn cs L a ccd cl) = (false, eval e1 (envX cn cs L a ccd cl)) :: starEach [] (envX cn cs L a ccd cl) := by rfl)
    (hk : cs.kind = .function := by rfl) (hx : (envX cn cs L a ccd cl).kindOf x = some .globalImplicit := by rfl) (hd : (x == ("__debug__" : Str)) = false := by decide) :
    wpAny M A (eval (.Call (.Name x pos1) [e1] [] pos) (envX cn cs L a ccd cl)) QV E (Shared.mk hh gn dr tk0 os) :=
  Call_ (nameX_K F X T h1 (callWith_K X h4 (args_cons (wpAny_mono H (fun v s1 h => args_nil h) fun _ _ h => h) ha) ha rfl) hk hx hd) he
noncomputable def CmpV (M : Model) (A : Around) (env : Env) (cop : CmpOp) (a : Value) (e2 : Expr) (QV E : Value → Shared → Prop) (s1 : Shared) : Prop :=
  wpAny M A (eval e2 env) (fun b s2 => wpAny M A (compareOp cop a b) QV E s2) E s1
theorem cmpI (H : wpAny M A (eval e1 env) (fun a s1 => CmpV M A env cop a e2 QV E s1) E (Shared.mk hh gn dr tk0 os)) (hb : behindInMarks cop e2 = false := by rfl) : wpAny M A (eval (.Compare e1 [cop] [e2] pos) env) QV E (Shared.mk hh gn dr tk0 os) := wpAny_Compare1 H hb
theorem CmpV.use (F : Fr g L hh m) (N : News g L hh nw) (p : PE M A env g L m nw e2 x2) (r : Cm M A cop x1 x2 q) (H : ∀ h tk, Fr g L h m → News g L h nw → QV (.bool q) (Shared.mk h gn dr tk os)) : CmpV M A env cop (x1.v t) e2 QV E (Shared.mk hh gn dr tk0 os) :=
  p.run _ _ E F N fun h tk t' F1 N1 => r.run _ _ E t t' (H h tk F1 N1)
theorem Cm.neNN : Cm (model prog w) A .NotEq (.val .none) (.val .none) false := .mk fun s Q E t u H => EqNone.ne_none_none H
theorem CmpR.tup2 {Q : Bool → Shared → Prop} {kk : Nat} {D : Addr} {b1 b2 : List UInt8} {t1 : Tok} (F : Fr g L hh m) (N : News g L hh nw) (hD : (D, tupObj #[.bytes b1.toArray t1, .bool q1]) ∈ nw) (p1 : PE (model prog w) A env g L m nw e1 (.bytes b2)) (p2 : PE (model prog w) A env g L m nw e2 (.val (.bool q2)))
    (hu : A.units < cLine) (hq : (!(decide (b1 = b2) && q1 == q2)) = q) (H : ∀ h tk, Fr g L h m → News g L h nw → Q q (Shared.mk h gn dr tk os))
    (ha : starEach [e1, e2] env = (false, eval e1 env) :: starEach [e2] env := by rfl) (hb : starEach [e2] env = (false, eval e2 env) :: starEach [] env := by rfl) :
    CmpR (model prog w) A env .NotEq (.ref D) (.Tuple [e1, e2] kk pos) Q E (Shared.mk hh gn dr tk0 os) := by
  refine PyProof.Rows.Tuple_ (args_cons (p1.run _ _ E F N fun h tk t F1 N1 => args_cons (p2.run _ _ E F1 N1 fun h2 tk2 t2 F2 N2 => args_nil ?_) hb) ha)
  refine kup_newTuple F2 N2 (fun D2 h3 F3 N3 lt => ?_) (by rw [sizeLine_eq]; exact Nat.le_of_ble_eq_true rfl)
  refine ne_tup2 N3 (.tail _ hD) (.head _) hu ?_
  rw [hq]
  exact wpAny_truthy_bool (H h3 tk2 F3 fun p hp => N3 p (.tail _ hp))
theorem tuple1I (F : Fr g L hh m) (X : K.In g) (T : TopRead p loose mg mb g) (e0 : nsIn K mainGlobals (Str.ofString "tuple") = some none)
    (H : wpAny (model prog w) A (eval e1 (envX cn cs L a ccd cl)) (fun v s1 => ∃ t items, v = .ref t ∧ IsTup s1.heap t items ∧ QV (.ref t) s1) E (Shared.mk hh gn dr tk0 os))
    (hn : Str.ofString "tuple" ≠ "__name__" := by decide) (hk : cs.kind = .function := by rfl) (hx : (envX cn cs L a ccd cl).kindOf (Str.ofString "tuple") = some .globalImplicit := by rfl) (hd : (Str.ofString "tuple" == ("__debug__" : Str)) = false := by decide)
    (he : eval (.Call (.Name (Str.ofString "tuple") pos1) [e1] [] pos) (envX cn cs L a ccd cl) = (do
        let f1 ← eval (.Name (Str.ofString "tuple") pos1) (envX cn cs L a ccd cl)
        callWith pos f1 [] (backTo pos (starEach [e1] (envX cn cs L a ccd cl))) (backToKw pos (keywordEach [] (envX cn cs L a ccd cl)))) := by rfl)
    (ha : starEach [e1] (envX cn cs L a ccd cl) = (false, eval e1 (envX cn cs L a ccd cl)) :: starEach [] (envX cn cs L a ccd cl) := by rfl) :
    wpAny (model prog w) A (eval (.Call (.Name (Str.ofString "tuple") pos1) [e1] [] pos) (envX cn cs L a ccd cl)) QV E (Shared.mk hh gn dr tk0 os) := by
  refine Call_ (nameX_B F X T e0 boot_tuple hn ?_ hk hx hd) he
  refine PyProof.Rows.callWith_type1 (args_cons (wpAny_mono H (fun v s1 hh => args_nil ?_) fun _ _ h => h) ha) ha ?_
  · obtain ⟨t, items, rfl, ht, hq⟩ := hh
    exact call_tuple_tup ht hq
  · rfl
theorem lam_any {P cA : Addr} {params : Arguments} {lb : Expr} {sc : Scope} {ps : Array Value} {gt : Obj → List (Addr × Obj)} {clos : List (Str × Addr)} (F : Fr g L hh m) (N : News g L hh (gt (tabObj ps))) (T : Top p loose mean mg mb g) (CD : CodeHd g cA P) (hcd : ccd = .ref cA)
    (U : UpdF P (tabObj ps) (gt (tabObj ps)) gt) (ht : TriplesOk ps.toList)
    (hc : codeAmong pos ps.toList = none ∨ ∃ c' oc vs t, codeAmong pos ps.toList = some (.ref c') ∧ (c', oc) ∈ gt (tabObj ps) ∧ oc.data = .fields vs ∧ vs[1]? = some (.str (cn ++ Str.ofString ".<locals>." ++ Str.ofString "<lambda>") t))
    (H : ∀ fl c' oc vs t ctv ps' h tk, Fr g L h m → News g L h ((fl, kla_obj (Str.ofString "<lambda>") (cn ++ Str.ofString ".<locals>." ++ Str.ofString "<lambda>") params lb sc clos ((mg (Str.ofString "__name__")).getD .none) c' ctv) :: (c', oc) :: gt (tabObj ps')) → oc.data = .fields vs → vs[1]? = some (.str (cn ++ Str.ofString ".<locals>." ++ Str.ofString "<lambda>") t) →
      (∀ q ∈ gt (tabObj ps), q.1 < fl) → ((ps' = ps ++ #[rawInt ↑pos.line, rawInt ↑pos.col, .ref c'] ∧ codeAmong pos ps.toList = none ∧ ∀ q ∈ gt (tabObj ps), q.1 < c') ∨ (ps' = ps ∧ codeAmong pos ps.toList = some (.ref c') ∧ (c', oc) ∈ gt (tabObj ps))) → QV (.ref fl) (Shared.mk h gn dr tk os))
    (hd : defaultsOf params (envX cn cs L a ccd cl) = ([], []) := by rfl) (hcl : closureFor sc (envX cn cs L a ccd cl) = pure clos := by rfl) :
    wpAny M A (eval (.Lambda params lb sc pos) (envX cn cs L a ccd cl)) QV E (Shared.mk hh gn dr tk0 os) := by
  refine kla_eval hd ?_
  rcases hc with hc | ⟨c', oc, vs, t, hc, hm, d1, d2⟩
  · refine kla_nest F N T CD hcd U ht hc hcl (fun fl c' oc vs t ctv h tk F1 N1 d1 d2 lt lt2 => ?_)
    exact H fl c' oc vs t ctv _ h tk F1 N1 d1 d2 (fun q hq => Nat.lt_trans (lt q hq) lt2) (.inl ⟨rfl, hc, lt⟩)
  · refine kla_hit F N T CD hcd (upd_mem U) ht hc hcl (fun fl ctv h tk F1 N1 lt => ?_)
    refine H fl c' oc vs t ctv ps h tk F1 (fun q hq => ?_) d1 d2 lt (.inr ⟨rfl, hc, hm⟩)
    rcases List.mem_cons.mp hq with rfl | hq
    · exact N1 _ (.head _)
    · rcases List.mem_cons.mp hq with rfl | hq
      · exact N1 _ (.tail _ hm)
      · exact N1 _ (.tail _ hq)
end
section
open PySem.W PyProof PyProof.V PySem.Calls PySem.Spec
variable {w : World} {base : Heap} {dp un : Nat} {gd : Option (List Code)} {env : Env} {outer : List Env} {loose : List Str} {mean : ExcName → Option Value} {mg mb : Str → Option Value} {v : Array UInt8} {news news' : List (Addr × Obj)}
  {fl c' : Addr} {oc : Obj} {vs : Array Value} {t : Tok} {name qual : Str} {params : Arguments} {lb : Expr} {sc : Scope} {clos : List (Str × Addr)} {pm ctv : Value}
noncomputable abbrev refA (dp un : Nat) (gd : Option (List Code)) (env : Env) (outer : List Env) (L' : Addr) : Around := Around.deeper { handled := none, depth := dp, frames := some (env :: outer), guards := gd, units := un } (refEnv L')
theorem refuses_lam (hm : (fl, kla_obj name qual params lb sc clos pm c' ctv) ∈ news) (hc : (c', oc) ∈ news) (d1 : oc.data = .fields vs) (d2 : vs[1]? = some (.str qual t)) (hdp : dp < 900)
    (hb : ∀ s, BindsTo s (kdv_fn name qual params (.expr lb) sc clos .none .none pm (.ref c') ctv) ⟨[], []⟩ [])
    (hbody : ∀ (L8 L9 : Addr) (g9 : Heap) (s9 : Shared) (QV E9 : Value → Shared → Prop), Below (refA dp un gd env outer L8) base (refEnv L8 :: env :: outer) g9 → Fr g9 L9 s9.heap (fun y => List.lookup y []) → (hd.heap_1 w.params).In g9 → News g9 L9 s9.heap news → Top topProg loose mean mg mb g9 →
      (∀ (G : Heap) (e de : Addr) (hsh : Int) (k : Tok) (n : Nat) (tk tk' : Tok) (h' : Heap), Fr g9 L9 G (fun y => List.lookup y []) → RaisedE base G (envX qual sc L9 fl (.ref c') clos :: refEnv L8 :: env :: outer) e de ((de, toldD hsh k n v tk) :: news') h' → G.UpToSlots h' → E9 (.ref e) { s9 with heap := h', toks := tk' }) →
      wpAny (model rw_on0267_01.row.prog w) ((refA dp un gd env outer L8).deeper (envX qual sc L9 fl (.ref c') clos)) (eval lb (envX qual sc L9 fl (.ref c') clos)) QV E9 s9)
    (h1 : sc.isCoroutine = false := by rfl) (h2 : sc.isGenerator = false := by rfl) (h3 : sc.kind = .function := by rfl) (h4 : ∀ x ∈ sc.names, x.2 ≠ .cell := by decide) :
    Refuses w base dp un gd env outer loose mean mg mb (.ref fl) v news news' := by
  intro g8 L8 m8 s8 Q8 E8 B8 F8 X8 N8 T8 RE8
  refine callWith_F0 (FnAt.of N8 hm) ?_
  refine wpAny_call ?_
  refine kdv_codeE (binds := []) B8 F8 X8 N8 T8 rfl rfl rfl hm (codeRec_news N8 hc d1 d2) ?_ (hb s8) (fun _ h => nomatch h) (fun g9 L9 h9 FG9 F9 N9 B9 X9 T9 => ?_) h1 h2 h3 h4
  · show dp + 1 < recursionLimit
    exact Nat.lt_of_lt_of_le (Nat.add_lt_add_right hdp 1) (by decide)
  · refine hbody L8 L9 g9 _ _ _ B9 F9 X9 N9 T9 fun G e de hsh k n tk tk' h' FG R U => ?_
    refine leave_onE B9 FG R U (fun h2 R2 U2 => ?_) rfl
    exact RE8 g9 e de hsh k n tk tk' h2 FG9 R2 U2
theorem accepts_lam {τ : Type} {P : τ → Prop} {newsT : τ → List (Addr × Obj)} (hm : (fl, kla_obj name qual params lb sc clos pm c' ctv) ∈ news) (hc : (c', oc) ∈ news) (d1 : oc.data = .fields vs) (d2 : vs[1]? = some (.str qual t)) (hdp : dp < 900)
    (hb : ∀ s, BindsTo s (kdv_fn name qual params (.expr lb) sc clos .none .none pm (.ref c') ctv) ⟨[], []⟩ [])
    (hbody : ∀ (L8 L9 : Addr) (g9 : Heap) (s9 : Shared) (QV E9 : Value → Shared → Prop), Below (refA dp un gd env outer L8) base (refEnv L8 :: env :: outer) g9 → Fr g9 L9 s9.heap (fun y => List.lookup y []) → (hd.heap_1 w.params).In g9 → News g9 L9 s9.heap news → Top topProg loose mean mg mb g9 →
      (∀ (c : τ) (h' : Heap) (tk : Tok), P c → Fr g9 L9 h' (fun y => List.lookup y []) → News g9 L9 h' (newsT c) → QV .none { s9 with heap := h', toks := tk }) →
      wpAny (model rw_on0267_01.row.prog w) ((refA dp un gd env outer L8).deeper (envX qual sc L9 fl (.ref c') clos)) (eval lb (envX qual sc L9 fl (.ref c') clos)) QV E9 s9)
    (h1 : sc.isCoroutine = false := by rfl) (h2 : sc.isGenerator = false := by rfl) (h3 : sc.kind = .function := by rfl) (h4 : ∀ x ∈ sc.names, x.2 ≠ .cell := by decide) :
    Accepts w base dp un gd env outer loose mean mg mb (.ref fl) P news newsT := by
  intro g8 L8 m8 s8 Q8 E8 B8 F8 X8 N8 T8 RE8
  refine callWith_F0 (FnAt.of N8 hm) ?_
  refine wpAny_call ?_
  refine kdv_codeE (binds := []) B8 F8 X8 N8 T8 rfl rfl rfl hm (codeRec_news N8 hc d1 d2) ?_ (hb s8) (fun _ h => nomatch h) (fun g9 L9 h9 FG9 F9 N9 B9 X9 T9 => ?_) h1 h2 h3 h4
  · show dp + 1 < recursionLimit
    exact Nat.lt_of_lt_of_le (Nat.add_lt_add_right hdp 1) (by decide)
  · refine hbody L8 L9 g9 _ _ _ B9 F9 X9 N9 T9 fun c h' tk hP FF NN => ?_
    exact leaveK_ FF NN fun F0 N0 => RE8 c h' tk hP F0 N0
end
end
section -- ConNew
variable {w : World} {A₀ : Around} {base h₀ : Heap} {outer : List Env} {L a : Addr} {m : Str → Option Value} {news : List (Addr × Obj)} {g : Obj → List (Addr × Obj)} {s : Shared} {Q E : Value → Shared → Prop} {dp un : Nat} {gd : Option (List Code)} {cn : Str} {cs : Scope} {ccd : Value} {cl : List (Str × Addr)} {loose : List Str} {mean : ExcName → Option Value} {mg mb : Str → Option Value}
noncomputable def Srt : List Nat → Prop
  | [] => True
  | a :: l => (∀ b ∈ l, a < b) ∧ Srt l
theorem Srt.cons {a b : Nat} {l : List Nat} (h : a < b) (s : Srt (b :: l)) : Srt (a :: b :: l) := ⟨fun c hc => by
  rcases List.mem_cons.mp hc with rfl | hc
  · exact h
  · exact Nat.lt_trans h (s.1 c hc), s⟩
theorem Srt.above {a b : Nat} {l : List Nat} (h : a < b) (s : Srt (b :: l)) : ∀ c ∈ b :: l, a < c := (Srt.cons h s).1
theorem abv {a b : Nat} {l : List Nat} (h : ∀ c ∈ l, a < c) (m : b ∈ l) : a < b := h b m
theorem new_R
  {num : Int} {nm : Array UInt8} {oc : List UInt8} {tn tm to : Tok}
  (B : Below A₀ base outer h₀) (F : Fr h₀ L s.heap m) (X : (hd.heap_1 w.params).In h₀) (T : Top topProg loose mean mg mb h₀) (hk : cs.kind = .function) (hdp : dp < 650) (hun : un < 900)
  (N : News h₀ L s.heap news) (hoc : oc.length ≤ 1000)
  (ret : ∀ x dx o h' tk, IsR w.params o oc 0 false false → Fr h₀ L h' m → News h₀ L h' ((x, instObj 226 dx) :: (dx, o) :: news) → (∀ q ∈ news, q.1 < dx) → @LT.lt Nat _ dx x → Q (.ref x) { s with heap := h', toks := tk }) :
  wpAny (model rw_on0267_01.row.prog w) (ktrTop dp un gd cn cs L a ccd cl outer) (call (.ref 226) [.int num tn, .bytes nm tm, .bytes oc.toArray to]) Q E s := by
  obtain ⟨nm⟩ := nm
  exact make_S (by kernel_rfl) (by kernel_rfl) (by kernel_rfl) (fun x dx g hx hU => mi_initR (num := num) (nm := nm) (oc := oc) (hx := hx) (hU := hU)) B X T hk (Nat.lt_of_lt_of_le (Nat.succ_lt_succ hdp) (by decide)) F N (.cons tn (.cons tm (.cons to .nil))) fun x dx o h' tk D F' N' l1 l2 => ret x dx o h' tk (D_isR0 D (by decide) (Int.natCast_nonneg _) hoc rfl) F' N' l1 l2
end
section -- ConRR2
local macro_rules | `(tactic| omega) => `(tactic| walk_at "om9")
theorem kw_24 : True := by
  w_top off
  k_with "kpk" => (rename _ ∧ _ => hh9; first | with_reducible exact hh9.1 | with_reducible exact hh9.2.1 | with_reducible exact hh9.2.2.1 | with_reducible exact hh9.2.2.2.1 | with_reducible exact hh9.2.2.2.2.1 | with_reducible exact hh9.2.2.2.2.2.1 | with_reducible exact hh9.2.2.2.2.2.2.1 | with_reducible exact hh9.2.2.2.2.2.2.2.1 | with_reducible exact hh9.2.2.2.2.2.2.2.2.1 | with_reducible exact hh9.2.2.2.2.2.2.2.2.2.1 | with_reducible exact hh9.2.2.2.2.2.2.2.2.2.2.1 | with_reducible exact hh9.2.2.2.2.2.2.2.2.2.2.2.1 | (clear hh9; walk_at "kpk"))
  k_with "om9" => first
      | with_reducible assumption
      | with_reducible exact Nat.le_refl _
      | decide
      | with_reducible exact Nat.le_trans (by assumption) (by decide)
      | with_reducible exact Nat.lt_of_lt_of_le (by assumption) (by decide)
      | ((with_reducible refine Nat.ne_of_lt ?_); walk_at "kpk")
      | ((with_reducible refine Nat.ne_of_gt ?_); walk_at "kpk")
      | ((with_reducible refine Nat.ne_of_gt (Nat.lt_trans ?_ (by assumption))); walk_at "kpk")
  k_with "k_all9" => (refine' offLt (own := _) ?a ?b; (case a => assumption); (case b => first | omega | ((try dsimp only); omega)))
  k_with "call ref" => (k_here; (first | (with_reducible show wpAny _ _ (call (Value.ref 97) [Value.ref _]) _ _ _) | (with_reducible show wpAny _ _ (call (Value.ref 97, [Value.ref _]).fst ((Value.ref 97, [Value.ref _]).snd ++ [])) _ _ _)); (first | ((first | (k_dflt (refine' next_RL ?B ?F ?X ?T ?hk ?hd ?hu ?N ?hx ?U ?ho ?hp (fun hlt9 o9 at9 t9 h' tk' R9 hpo9 F' N' => ?_) (fun heq9 o9 at9 h' tk' R9 F' N' => ?_); (case N => k_asm); (case F => k_asm); (case B => k_asm); (case X => k_asm); (case T => k_asm); (case hk => first | exact rfl | assumption); (case hd => walk_at "hd9"); (case hu => walk_at "hu9"); (case hx => k_mem); (case U => k_updF); (case ho => assumption); (case hp => assumption); (all_goals (first | ((have R9c : IsR _ _ _ _ _ _ := R9); ((refine IsR.elim R9c ?_; clear R9c; intro _ _ _ _ _ _ _ _ _ _ _ _ _ _ _ _ _ _ _ e9o; intro hpl9 h09 hat9 hoc9 hib9 hl19 hl29 hl39)); (subst e9o); (rw [← hpo9] at hpl9); (replace hpl9 := hpl9.symm); (subst hpl9)) | ((have R9c : IsC _ _ _ _ := R9); ((refine IsC.elim R9c ?_; clear R9c; intro _ _ _ _ _ _ _ _ _ _ _ _ _ _ _ _ _ _ e9o; intro h09 hat9 hoc9)); (subst e9o)) | skip)))) | (k_dflt (refine' next_C ?B ?F ?X ?T ?hk ?hd ?hu ?N ?hx ?U ?ho (fun o9 h' tk' R9 F' N' => ?_); (case N => k_asm); (case F => k_asm); (case B => k_asm); (case X => k_asm); (case T => k_asm); (case hk => first | exact rfl | assumption); (case hd => walk_at "hd9"); (case hu => walk_at "hu9"); (case hx => k_mem); (case U => k_updF); (case ho => assumption); (all_goals (first | ((have R9c : IsR _ _ _ _ _ _ := R9); ((refine IsR.elim R9c ?_; clear R9c; intro _ _ _ _ _ _ _ _ _ _ _ _ _ _ _ _ _ _ _ e9o; intro hpl9 h09 hat9 hoc9 hib9 hl19 hl29 hl39)); (subst e9o); (rw [← hpo9] at hpl9); (replace hpl9 := hpl9.symm); (subst hpl9)) | ((have R9c : IsC _ _ _ _ := R9); ((refine IsC.elim R9c ?_; clear R9c; intro _ _ _ _ _ _ _ _ _ _ _ _ _ _ _ _ _ _ e9o; intro h09 hat9 hoc9)); (subst e9o)) | skip))))); (all_goals (try (exfalso; omega))); (all_goals ((try dsimp only at F'); (try dsimp only at N'); (try dsimp only at RE9); (try dsimp only at U9); (try dsimp only))); (all_goals (try (k_lt lt9))); (all_goals (try k_sweep))) | (trace "NO CONTRACT 97"; refine stop_ ?_)))
  k_with "call ref" => (k_here; (first | (with_reducible show wpAny _ _ (call (Value.ref 104) [Value.ref _]) _ _ _) | (with_reducible show wpAny _ _ (call (Value.ref 104, [Value.ref _]).fst ((Value.ref 104, [Value.ref _]).snd ++ [])) _ _ _)); (first | ((first | (k_dflt (refine' back_RL0 ?B ?F ?X ?T ?hk ?hd ?hu ?N ?hx ?U ?ho ?hp (fun o9 at9 h' tk' R9 hpo9 F' N' => ?_); (case N => k_asm); (case F => k_asm); (case B => k_asm); (case X => k_asm); (case T => k_asm); (case hk => first | exact rfl | assumption); (case hd => walk_at "hd9"); (case hu => walk_at "hu9"); (case hx => k_mem); (case U => k_updF); (case ho => assumption); (case hp => assumption); (all_goals (first | ((have R9c : IsR _ _ _ _ _ _ := R9); ((refine IsR.elim R9c ?_; clear R9c; intro _ _ _ _ _ _ _ _ _ _ _ _ _ _ _ _ _ _ _ e9o; intro hpl9 h09 hat9 hoc9 hib9 hl19 hl29 hl39)); (subst e9o); (rw [← hpo9] at hpl9); (replace hpl9 := hpl9.symm); (subst hpl9)) | ((have R9c : IsC _ _ _ _ := R9); ((refine IsC.elim R9c ?_; clear R9c; intro _ _ _ _ _ _ _ _ _ _ _ _ _ _ _ _ _ _ e9o; intro h09 hat9 hoc9)); (subst e9o)) | skip)))) | (k_dflt (refine' back_RL1 ?B ?F ?X ?T ?hk ?hd ?hu ?N ?hx ?U ?ho ?hp (fun o9 at9 h' tk' R9 hpo9 F' N' => ?_); (case N => k_asm); (case F => k_asm); (case B => k_asm); (case X => k_asm); (case T => k_asm); (case hk => first | exact rfl | assumption); (case hd => walk_at "hd9"); (case hu => walk_at "hu9"); (case hx => k_mem); (case U => k_updF); (case ho => assumption); (case hp => assumption); (all_goals (first | ((have R9c : IsR _ _ _ _ _ _ := R9); ((refine IsR.elim R9c ?_; clear R9c; intro _ _ _ _ _ _ _ _ _ _ _ _ _ _ _ _ _ _ _ e9o; intro hpl9 h09 hat9 hoc9 hib9 hl19 hl29 hl39)); (subst e9o); (rw [← hpo9] at hpl9); (replace hpl9 := hpl9.symm); (subst hpl9)) | ((have R9c : IsC _ _ _ _ := R9); ((refine IsC.elim R9c ?_; clear R9c; intro _ _ _ _ _ _ _ _ _ _ _ _ _ _ _ _ _ _ e9o; intro h09 hat9 hoc9)); (subst e9o)) | skip))))); (all_goals (try (exfalso; omega))); (all_goals ((try dsimp only at F'); (try dsimp only at N'); (try dsimp only at RE9); (try dsimp only at U9); (try dsimp only))); (all_goals (try (k_lt lt9))); (all_goals (try k_sweep))) | (trace "NO CONTRACT 104"; refine stop_ ?_)))
  k_with "call ref" => (k_here; (first | (with_reducible show wpAny _ _ (call (Value.ref 209) [Value.ref _]) _ _ _) | (with_reducible show wpAny _ _ (call (Value.ref 209, [Value.ref _]).fst ((Value.ref 209, [Value.ref _]).snd ++ [])) _ _ _)); (first | ((first | (k_dflt (refine' avail_RL ?B ?F ?X ?T ?hk ?hd ?hu ?N ?hx ?U ?ho ?hp (fun o9 at9 t9 h' tk' R9 hpo9 F' N' => ?_); (case N => k_asm); (case F => k_asm); (case B => k_asm); (case X => k_asm); (case T => k_asm); (case hk => first | exact rfl | assumption); (case hd => walk_at "hd9"); (case hu => walk_at "hu9"); (case hx => k_mem); (case U => k_updF); (case ho => assumption); (case hp => assumption); (all_goals (first | ((have R9c : IsR _ _ _ _ _ _ := R9); ((refine IsR.elim R9c ?_; clear R9c; intro _ _ _ _ _ _ _ _ _ _ _ _ _ _ _ _ _ _ _ e9o; intro hpl9 h09 hat9 hoc9 hib9 hl19 hl29 hl39)); (subst e9o); (rw [← hpo9] at hpl9); (replace hpl9 := hpl9.symm); (subst hpl9)) | ((have R9c : IsC _ _ _ _ := R9); ((refine IsC.elim R9c ?_; clear R9c; intro _ _ _ _ _ _ _ _ _ _ _ _ _ _ _ _ _ _ e9o; intro h09 hat9 hoc9)); (subst e9o)) | skip)))) | (k_dflt (refine' avail_C ?B ?F ?X ?T ?hk ?hd ?hu ?N ?hx ?U ?ho (fun o9 t9 h' tk' R9 F' N' => ?_); (case N => k_asm); (case F => k_asm); (case B => k_asm); (case X => k_asm); (case T => k_asm); (case hk => first | exact rfl | assumption); (case hd => walk_at "hd9"); (case hu => walk_at "hu9"); (case hx => k_mem); (case U => k_updF); (case ho => assumption); (all_goals (first | ((have R9c : IsR _ _ _ _ _ _ := R9); ((refine IsR.elim R9c ?_; clear R9c; intro _ _ _ _ _ _ _ _ _ _ _ _ _ _ _ _ _ _ _ e9o; intro hpl9 h09 hat9 hoc9 hib9 hl19 hl29 hl39)); (subst e9o); (rw [← hpo9] at hpl9); (replace hpl9 := hpl9.symm); (subst hpl9)) | ((have R9c : IsC _ _ _ _ := R9); ((refine IsC.elim R9c ?_; clear R9c; intro _ _ _ _ _ _ _ _ _ _ _ _ _ _ _ _ _ _ e9o; intro h09 hat9 hoc9)); (subst e9o)) | skip))))); (all_goals (try (exfalso; omega))); (all_goals ((try dsimp only at F'); (try dsimp only at N'); (try dsimp only at RE9); (try dsimp only at U9); (try dsimp only))); (all_goals (try (k_lt lt9))); (all_goals (try k_sweep))) | (trace "NO CONTRACT 209"; refine stop_ ?_)))
  k_with "call ref" => (k_here; (first | (with_reducible show wpAny _ _ (call (Value.ref 216) [Value.ref _]) _ _ _) | (with_reducible show wpAny _ _ (call (Value.ref 216, [Value.ref _]).fst ((Value.ref 216, [Value.ref _]).snd ++ [])) _ _ _)); (first | ((first | (k_dflt (refine' pos_RL ?B ?F ?X ?T ?hk ?hd ?hu ?N ?hx ?U ?ho ?hp (fun o9 at9 t9 h' tk' R9 hpo9 F' N' => ?_); (case N => k_asm); (case F => k_asm); (case B => k_asm); (case X => k_asm); (case T => k_asm); (case hk => first | exact rfl | assumption); (case hd => walk_at "hd9"); (case hu => walk_at "hu9"); (case hx => k_mem); (case U => k_updF); (case ho => assumption); (case hp => assumption); (all_goals (first | ((have R9c : IsR _ _ _ _ _ _ := R9); ((refine IsR.elim R9c ?_; clear R9c; intro _ _ _ _ _ _ _ _ _ _ _ _ _ _ _ _ _ _ _ e9o; intro hpl9 h09 hat9 hoc9 hib9 hl19 hl29 hl39)); (subst e9o); (rw [← hpo9] at hpl9); (replace hpl9 := hpl9.symm); (subst hpl9)) | ((have R9c : IsC _ _ _ _ := R9); ((refine IsC.elim R9c ?_; clear R9c; intro _ _ _ _ _ _ _ _ _ _ _ _ _ _ _ _ _ _ e9o; intro h09 hat9 hoc9)); (subst e9o)) | skip))))); (all_goals (try (exfalso; omega))); (all_goals ((try dsimp only at F'); (try dsimp only at N'); (try dsimp only at RE9); (try dsimp only at U9); (try dsimp only))); (all_goals (try (k_lt lt9))); (all_goals (try k_sweep))) | (trace "NO CONTRACT 216"; refine stop_ ?_)))
  k_with "call ref" => (k_here; (first | (with_reducible show wpAny _ _ (call (Value.ref 223) [Value.ref _, Value.int _ _]) _ _ _) | (with_reducible show wpAny _ _ (call (Value.ref 223, [Value.ref _]).fst ((Value.ref 223, [Value.ref _]).snd ++ [Value.int _ _])) _ _ _)); (first | ((first | (k_dflt (refine' setpos_RL ?B ?F ?X ?T ?hk ?hd ?hu ?N ?hx ?U ?ho ?hp ?qz0 ?qz1 (fun o9 at9 h' tk' R9 hpo9 F' N' => ?_); (case N => k_asm); (case F => k_asm); (case B => k_asm); (case X => k_asm); (case T => k_asm); (case hk => first | exact rfl | assumption); (case hd => walk_at "hd9"); (case hu => walk_at "hu9"); (case hx => k_mem); (case U => k_updF); (case ho => assumption); (case hp => assumption); (case qz0 => omega); (case qz1 => omega); (all_goals (first | ((have R9c : IsR _ _ _ _ _ _ := R9); ((refine IsR.elim R9c ?_; clear R9c; intro _ _ _ _ _ _ _ _ _ _ _ _ _ _ _ _ _ _ _ e9o; intro hpl9 h09 hat9 hoc9 hib9 hl19 hl29 hl39)); (subst e9o); (rw [← hpo9] at hpl9); (replace hpl9 := hpl9.symm); (subst hpl9)) | ((have R9c : IsC _ _ _ _ := R9); ((refine IsC.elim R9c ?_; clear R9c; intro _ _ _ _ _ _ _ _ _ _ _ _ _ _ _ _ _ _ e9o; intro h09 hat9 hoc9)); (subst e9o)) | skip)))) | (k_dflt (refine' setpos_B1 ?B ?F ?X ?T ?hk ?hd ?hu ?N ?hx ?U ?ho ?qz0 (fun G9 e9 de9 hsh9 k9 n9 tk9 tk9' h9' F9 RE9 U9 => ?_); (case N => k_asm); (case F => k_asm); (case B => k_asm); (case X => k_asm); (case T => k_asm); (case hk => first | exact rfl | assumption); (case hd => walk_at "hd9"); (case hu => walk_at "hu9"); (case hx => k_mem); (case U => k_updF); (case ho => assumption); (case qz0 => omega))) | (k_dflt (refine' setpos_B2 ?B ?F ?X ?T ?hk ?hd ?hu ?N ?hx ?U ?ho ?qz0 (fun G9 e9 de9 hsh9 k9 n9 tk9 tk9' h9' F9 RE9 U9 => ?_); (case N => k_asm); (case F => k_asm); (case B => k_asm); (case X => k_asm); (case T => k_asm); (case hk => first | exact rfl | assumption); (case hd => walk_at "hd9"); (case hu => walk_at "hu9"); (case hx => k_mem); (case U => k_updF); (case ho => assumption); (case qz0 => omega)))); (all_goals (try (exfalso; omega))); (all_goals ((try dsimp only at F'); (try dsimp only at N'); (try dsimp only at RE9); (try dsimp only at U9); (try dsimp only))); (all_goals (try (k_lt lt9))); (all_goals (try k_sweep))) | (trace "NO CONTRACT 223"; refine stop_ ?_)))
  k_with "call ref" => (k_here; (first | (with_reducible show wpAny _ _ (call (Value.ref 153) [Value.ref _]) _ _ _) | (with_reducible show wpAny _ _ (call (Value.ref 153, [Value.ref _]).fst ((Value.ref 153, [Value.ref _]).snd ++ [])) _ _ _)); (first | ((first | (k_dflt (refine' close_R ?B ?F ?X ?T ?hk ?hd ?hu ?N ?hx ?U ?ho (fun o9 h' tk' R9 F' N' => ?_); (case N => k_asm); (case F => k_asm); (case B => k_asm); (case X => k_asm); (case T => k_asm); (case hk => first | exact rfl | assumption); (case hd => walk_at "hd9"); (case hu => walk_at "hu9"); (case hx => k_mem); (case U => k_updF); (case ho => assumption); (all_goals (first | ((have R9c : IsR _ _ _ _ _ _ := R9); ((refine IsR.elim R9c ?_; clear R9c; intro _ _ _ _ _ _ _ _ _ _ _ _ _ _ _ _ _ _ _ e9o; intro hpl9 h09 hat9 hoc9 hib9 hl19 hl29 hl39)); (subst e9o); (rw [← hpo9] at hpl9); (replace hpl9 := hpl9.symm); (subst hpl9)) | ((have R9c : IsC _ _ _ _ := R9); ((refine IsC.elim R9c ?_; clear R9c; intro _ _ _ _ _ _ _ _ _ _ _ _ _ _ _ _ _ _ e9o; intro h09 hat9 hoc9)); (subst e9o)) | skip))))); (all_goals (try (exfalso; omega))); (all_goals ((try dsimp only at F'); (try dsimp only at N'); (try dsimp only at RE9); (try dsimp only at U9); (try dsimp only))); (all_goals (try (k_lt lt9))); (all_goals (try k_sweep))) | (trace "NO CONTRACT 153"; refine stop_ ?_)))
  k_with "call ref" => (k_here; (first | (with_reducible show wpAny _ _ (call (Value.ref 118) [Value.ref _, Value.int _ _]) _ _ _) | (with_reducible show wpAny _ _ (call (Value.ref 118, [Value.ref _]).fst ((Value.ref 118, [Value.ref _]).snd ++ [Value.int _ _])) _ _ _)); (first | ((first | (k_dflt (refine' read_RL ?B ?F ?X ?T ?hk ?hd ?hu ?N ?hx ?U ?ho ?hp ?qz0 ?qz1 (fun hle9 o9 t9 h' tk' at9 hl9 ib9 R9 hpo9 F' N' => ?_) (fun hlt9 o9 t9 h' tk' at9 R9 F' N' => ?_); (case N => k_asm); (case F => k_asm); (case B => k_asm); (case X => k_asm); (case T => k_asm); (case hk => first | exact rfl | assumption); (case hd => walk_at "hd9"); (case hu => walk_at "hu9"); (case hx => k_mem); (case U => k_updF); (case ho => assumption); (case hp => assumption); (case qz0 => omega); (case qz1 => omega); (all_goals (first | ((have R9c : IsR _ _ _ _ _ _ := R9); ((refine IsR.elim R9c ?_; clear R9c; intro _ _ _ _ _ _ _ _ _ _ _ _ _ _ _ _ _ _ _ e9o; intro hpl9 h09 hat9 hoc9 hib9 hl19 hl29 hl39)); (subst e9o); (rw [← hpo9] at hpl9); (replace hpl9 := hpl9.symm); (subst hpl9)) | ((have R9c : IsC _ _ _ _ := R9); ((refine IsC.elim R9c ?_; clear R9c; intro _ _ _ _ _ _ _ _ _ _ _ _ _ _ _ _ _ _ e9o; intro h09 hat9 hoc9)); (subst e9o)) | skip))))); (all_goals (try (exfalso; omega))); (all_goals ((try dsimp only at F'); (try dsimp only at N'); (try dsimp only at RE9); (try dsimp only at U9); (try dsimp only))); (all_goals (try (k_lt lt9))); (all_goals (try k_sweep))) | (trace "NO CONTRACT 118"; refine stop_ ?_)))
  k_with "call ref" => (k_here; (first | (with_reducible show wpAny _ _ (call (Value.ref 125) [Value.ref _, Value.int _ _]) _ _ _) | (with_reducible show wpAny _ _ (call (Value.ref 125, [Value.ref _]).fst ((Value.ref 125, [Value.ref _]).snd ++ [Value.int _ _])) _ _ _)); (first | ((first | (k_dflt (refine' line_RL ?B ?F ?X ?T ?hk ?hd ?hu ?N ?hx ?U ?ho ?hp ?qz0 ?qz1 (fun hrl9 hel9 hcr9 o9 tp9 t9 h' tk' at9 hl9 ib9 R9 hpo9 F' N' => ?_) (fun hrl9 hel9 hcr9 o9 tp9 t9 h' tk' at9 R9 F' N' => ?_) (fun hrl9 hel9 o9 tp9 t9 h' tk' at9 R9 F' N' => ?_) (fun hrl9 o9 at9 hl9 ib9 G9 e9 de9 hsh9 k9 n9 tk9 tk9' h9' R9 F9 RE9 U9 => ?_); (case N => k_asm); (case F => k_asm); (case B => k_asm); (case X => k_asm); (case T => k_asm); (case hk => first | exact rfl | assumption); (case hd => walk_at "hd9"); (case hu => walk_at "hu9"); (case hx => k_mem); (case U => k_updF); (case ho => assumption); (case hp => assumption); (case qz0 => omega); (case qz1 => omega); (all_goals (first | ((have R9c : IsR _ _ _ _ _ _ := R9); ((refine IsR.elim R9c ?_; clear R9c; intro _ _ _ _ _ _ _ _ _ _ _ _ _ _ _ _ _ _ _ e9o; intro hpl9 h09 hat9 hoc9 hib9 hl19 hl29 hl39)); (subst e9o); (rw [← hpo9] at hpl9); (replace hpl9 := hpl9.symm); (subst hpl9)) | ((have R9c : IsC _ _ _ _ := R9); ((refine IsC.elim R9c ?_; clear R9c; intro _ _ _ _ _ _ _ _ _ _ _ _ _ _ _ _ _ _ e9o; intro h09 hat9 hoc9)); (subst e9o)) | skip))))); (all_goals (try (exfalso; omega))); (all_goals ((try dsimp only at F'); (try dsimp only at N'); (try dsimp only at RE9); (try dsimp only at U9); (try dsimp only))); (all_goals (try (k_lt lt9))); (all_goals (try k_sweep))) | (trace "NO CONTRACT 125"; refine stop_ ?_)))
  k_with "call ref" => (k_here; (first | (with_reducible show wpAny _ _ (call (Value.ref 430) [Value.bytes _ _, Value.int _ _]) _ _ _) | (with_reducible show wpAny _ _ (call (Value.ref 430, [Value.bytes _ _]).fst ((Value.ref 430, [Value.bytes _ _]).snd ++ [Value.int _ _])) _ _ _)); k_dflt (refine' law_row ?B ?F ?X ?T ?hk ?hd ?hu ?N ?qz0 ?qz1 ?q2 (fun he9 tp9 t9 te9 h' tk' F' N' lt9 => ?_) (fun he9 hu9 tp9 t9 te9 h' tk' F' N' lt9 => ?_); (case N => k_asm); (case F => k_asm); (case B => k_asm); (case X => k_asm); (case T => k_asm); (case hk => first | exact rfl | assumption); (case hd => walk_at "hd9"); (case hu => walk_at "hu9"); (case qz0 => omega); (case qz1 => omega); (case q2 => omega)); (all_goals (k_lt lt9)); (all_goals (try (exfalso; omega))); (all_goals (try k_sweep)))
  k_with "compareOp NotEq ref ref" => (k_here; (with_reducible show wpAny _ _ (compareOp CmpOp.NotEq (Value.ref _) (Value.ref _)) _ _ _); k_dflt (refine' ne_tup2 ?N ?a ?b ?hu ?_; (case N => k_asm); (case a => k_mem); (case b => k_mem); (case hu => (try simp only [units_in1, units_deeper, Around.mark_units, units_caller]); (try dsimp only [ktrTop]); (have hcL9 := cLine_is); omega); k_whole); (try simp only [eq_self, decide_true, Bool.and_self, beq_self_eq_true, Bool.not_true, Bool.and_true, Bool.true_and]))
  trivial

theorem kw_25 : True := by
  k_with "k_ne9" => first | exact Nat.ne_of_lt (abv (by assumption) (by k_mem)) | exact Nat.ne_of_gt (abv (by assumption) (by k_mem)) | exact Nat.ne_of_lt (by assumption) | exact Nat.ne_of_gt (by assumption) | assumption | exact Nat.ne_of_gt (And.left (by assumption)) | exact Nat.ne_of_gt (And.left (And.right (by assumption))) | exact Nat.ne_of_gt (And.left (And.right (And.right (by assumption)))) | (refine neN ?_; (try dsimp only); omega)
  k_with "call ref" => (k_here; (with_reducible show wpAny _ _ (call (Value.ref 226) [Value.int _ _, Value.bytes _ _, Value.bytes _ _]) _ _ _); k_dflt (refine' new_R ?B ?F ?X ?T ?hk ?hd ?hu ?N ?ho (fun x9 dx9 o9 h' tk' R9 F' N' lz1 lz2 => ?_); (case N => k_asm); (case F => k_asm); (case B => k_asm); (case X => k_asm); (case T => k_asm); (case hk => first | exact rfl | assumption); (case hd => walk_at "hd9"); (case hu => walk_at "hu9"); (case ho => omega)); (try k_lt lz1); (try dsimp only))
  trivial
structure RRSt where
  o : Obj
  at_ : Int
  hl : Bool
  ib : Bool
  la : Int
  ta : Tok
  cb : Bool
  ci : Obj
  cl : Obj
  cp : Obj
  ps : Array Value
  ext : List (Addr × Obj)
noncomputable def TabOk (x : Addr) (ps : Array Value) (ext : List (Addr × Obj)) : Prop :=
  (ps = #[] ∧ ext = []) ∨ ∃ c' oc vs t, ps = #[rawInt 340, rawInt 28, .ref c'] ∧ ext = [(c', oc)] ∧ oc.data = .fields vs ∧ vs[1]? = some (.str (Str.ofString "_law_reader_right" ++ Str.ofString ".<locals>." ++ Str.ofString "<lambda>") t) ∧ @LT.lt Nat _ x c'
theorem TabOk.ext_lt {x : Addr} {ps : Array Value} {ext : List (Addr × Obj)} (h : TabOk x ps ext) : ∀ p ∈ ext, @LT.lt Nat _ x p.1 := by
  rcases h with ⟨_, rfl⟩ | ⟨c', oc, vs, t, _, rfl, _, _, hx⟩
  · exact fun p hp => nomatch hp
  · intro p hp
    rw [List.mem_singleton.mp hp]
    exact hx
noncomputable def RRP (P : Params) (oc : List UInt8) (x : Addr) (i : Nat) (c : RRSt) : Prop :=
  IsR P c.o oc c.at_ c.hl c.ib ∧ c.la = c.at_ - (if c.ib then 1 else 0) ∧ (c.cb = true → c.hl = true ∧ c.ib = false) ∧ c.ci.data = .cell (some (.ref x)) ∧ (∃ v, c.cl.data = .cell v) ∧ (∃ v, c.cp.data = .cell v) ∧ TabOk x c.ps c.ext
theorem intsAre_at {vs : List Value} {ns : List Int} (h : IntsAre vs ns) : ∀ {i : Nat} {v : Value}, vs[i]? = some v → ∃ n t, v = .int n t ∧ n ∈ ns := by
  induction h with
  | nil => intro i v e; simp at e
  | cons a b _ ih =>
    intro i v e
    cases i with
    | zero => simp only [List.getElem?_cons_zero, Option.some.injEq] at e; exact ⟨_, _, e.symm, .head _⟩
    | succ i =>
      obtain ⟨n, t, e1, e2⟩ := ih (by simpa using e)
      exact ⟨n, t, e1, .tail _ e2⟩
theorem offC {own : List (Addr × Obj)} {a : Addr} {l : List Addr} (h : ∀ p ∈ own, p.1 ≠ a) (r : OwnOff own l) : OwnOff own (a :: l) := fun p hp => List.forall_mem_cons.mpr ⟨h p hp, r p hp⟩
theorem offSub {own : List (Addr × Obj)} {l l' : List Addr} (h : OwnOff own l) (hs : ∀ a ∈ l', a ∈ l) : OwnOff own l' := fun p hp b hb => h p hp b (hs b hb)
theorem offApp {o1 o2 : List (Addr × Obj)} {l : List Addr} (h1 : OwnOff o1 l) (h2 : OwnOff o2 l) : OwnOff (o1 ++ o2) l := fun p hp b hb => by
  rcases List.mem_append.mp hp with hp | hp
  · exact h1 p hp b hb
  · exact h2 p hp b hb


theorem sub7 {a b c d e f g : Addr × Obj} {l l' : List (Addr × Obj)} (h : ∀ p ∈ l, p ∈ l') : ∀ p ∈ a :: b :: c :: d :: e :: f :: g :: l, p ∈ a :: b :: c :: d :: e :: f :: g :: l' := by
  intro p hp
  simp only [List.mem_cons] at hp ⊢
  rcases hp with h1 | h1 | h1 | h1 | h1 | h1 | h1 | h1
  · exact .inl h1
  · exact .inr (.inl h1)
  · exact .inr (.inr (.inl h1))
  · exact .inr (.inr (.inr (.inl h1)))
  · exact .inr (.inr (.inr (.inr (.inl h1))))
  · exact .inr (.inr (.inr (.inr (.inr (.inl h1)))))
  · exact .inr (.inr (.inr (.inr (.inr (.inr (.inl h1))))))
  · exact .inr (.inr (.inr (.inr (.inr (.inr (.inr (h p h1)))))))
theorem row_len (oc : List UInt8) (p : Nat) : (rowOf oc p).length ≤ oc.length := by
  unfold rowOf
  refine Nat.le_trans (List.takeWhile_sublist _).length_le ?_
  rw [List.length_drop]
  omega
theorem end_cr {oc : List UInt8} {p : Nat} (h1 : endOf oc p + 1 = oc.length) (h2 : oc.getD (endOf oc p) 0 = 13) : behindOf oc p = oc.length ∧ oc.drop (oc.length - 1) = [13] := by
  constructor
  · rw [behind_1 ?_]
    · exact h1
    · rintro ⟨_, h⟩
      have := getD_lt h
      omega
  · rw [show oc.length - 1 = endOf oc p by omega, List.drop_eq_getElem_cons (by omega), List.drop_eq_nil_of_le (by omega)]
    rw [List.getD_eq_getElem?_getD, List.getElem?_eq_getElem (by omega)] at h2
    have h3 : oc[endOf oc p]'(by omega) = 13 := h2
    rw [h3]
theorem mem7 {a b c d e f g p : Addr × Obj} {l : List (Addr × Obj)} (h : p ∈ a :: b :: c :: d :: e :: f :: g :: l) : p ∈ [a, b, c, d, e, f, g] ∨ p ∈ l := List.mem_append.mp (show p ∈ [a, b, c, d, e, f, g] ++ l from h)
structure InLoop : Prop where
  mark :: (one : True)
theorem offLow {own : List (Addr × Obj)} {d : Nat} (h : AllLt d own) {l : List Addr} (hl : ∀ b ∈ l, @LE.le Nat _ d b) : OwnOff own l := fun p hp b hb e => by
  have h1 : @LT.lt Nat _ p.1 d := kst_ltOf h p hp
  have h2 := hl b hb
  rw [e] at h1
  exact absurd h1 (Nat.not_lt.mpr h2)
theorem offHigh {own : List (Addr × Obj)} {d : Nat} (h : ∀ p ∈ own, @LT.lt Nat _ d p.1) {l : List Addr} (hl : ∀ b ∈ l, @LE.le Nat _ b d) : OwnOff own l := fun p hp b hb e => by
  have h1 := h p hp
  have h2 := hl b hb
  rw [e] at h1
  exact absurd h1 (Nat.not_lt.mpr h2)
theorem kw_26 : True := by
  k_with "exec For Name Name cons nil" => (k_here; (rename Fr _ _ _ _ => lF'); (with_unfolding_all refine' For_invVF lF' ?k1 ?k2 ?_; (case k1 => exact rfl); (case k2 => exact rfl); k_whole))
  k_with "pyIter ref" => ((with_reducible show wpAny _ _ (pyIter (Value.ref _)) (fun it s₂ => LoopAtV _ _ _ _ _ _ _ _ _ it s₂) _ _); refine stop_ ?_)
  k_with "ite" => ((rename InLoop => hInLoop); k_dflt (first | refine ite_pos (by first | omega | (rw [beq_iff_eq]; omega) | (rw [bne_iff_ne]; omega)) ?_ | refine ite_neg (by first | omega | (rw [beq_iff_eq]; omega) | (rw [bne_iff_ne]; omega)) ?_))
  k_with "PostG" => (dsimp only [PostG])
  k_with "eval Lambda" => (k_here; (rename InLoop => hInLoop'); (clear hInLoop'); refine stop_ ?_)
  k_with "call ref" => (k_here; (first | (with_reducible show wpAny _ _ (call (Value.ref 444) [Value.ref _]) _ _ _) | (with_reducible show wpAny _ _ (call (Value.ref 444, [Value.ref _]).fst ((Value.ref 444, [Value.ref _]).snd ++ [])) _ _ _)); k_dflt (refine' ended_K (keep := (lc, listOf vs.toArray ep) :: (432, tabObj _) :: own) ?B ?F ?X ?T ?hk ?hd ?hu ?XB ?TB ?D ?N ?hx ?U ?ho ?hkeep (fun h₀' h' tk' KT F' N' B' X' T' D' => ?_); (case N => k_asm); (case F => k_asm); (case B => k_asm); (case X => k_asm); (case T => k_asm); (case hk => first | exact rfl | assumption); (case hd => walk_at "hd9"); (case hu => walk_at "hu9"); (case hx => k_mem); (case U => k_updF); (case ho => assumption); (case XB => assumption); (case TB => assumption); (case D => assumption); (case hkeep => exact (fun p hp => by
      rcases List.mem_cons.mp hp with rfl | hp
      · exact ⟨by k_mem, hlx, hldx⟩
      rcases List.mem_cons.mp hp with rfl | hp
      · exact ⟨by k_mem, h4x, h4dx⟩
      · exact ⟨by (have hp' := hkt p hp; k_ownIn), hofft p (hkt p hp) x (by simp), hofft p (hkt p hp) dx (by simp)⟩))); (try dsimp only); (try k_lift B'); (try k_sweep))
  k_with "EndG" => (refine stop_ ?_)
  k_with "EndG_" => (
      (rename News _ _ _ _ => N9); (rename Fr _ _ _ _ => F9); (rename IsR _ _ _ _ _ _ => R9);
      (refine' endG ⟨_, _, _, _, _, _, _, _, _, _, _, _⟩ F9 N9 ?hn ?ho ?hl ?ha ?hk ?hr ⟨R9, ?e1, ?e2, ?e3, ⟨_, ?e4⟩, ⟨_, ?e5⟩, hT8⟩);
      (case e1 => assumption); (case hk => kst_all);
      (case hn => kst_in);
      (case ho => (intro p hp; have hp' : p ∈ tl := htl2 p hp; k_ownIn));
      (case hl => k_memK);
      (case ha => exact hoff9);
      (case hr => kst_same);
      (case e3 => assumption); (case e4 => assumption); (case e5 => assumption);
      (case e2 => first | exact (fun _ => ⟨rfl, rfl⟩) | exact (fun h => (nomatch h)) | assumption))
  trivial
theorem fm7 {n : Int} (h : 0 ≤ n ∧ n < 7) (h0 : n ≠ 0) : n = 1 ∨ (n = 2 ∨ n = 3) ∨ n = 4 ∨ n = 5 ∨ n = 6 := by
  obtain ⟨h1, h2⟩ := h
  obtain ⟨k, rfl⟩ := Int.eq_ofNat_of_zero_le h1
  have h2 : k < 7 := Int.ofNat_lt.mp h2
  match k, h2 with
  | 0, _ => exact absurd rfl h0
  | 1, _ => exact .inl rfl
  | 2, _ => exact .inr (.inl (.inl rfl))
  | 3, _ => exact .inr (.inl (.inr rfl))
  | 4, _ => exact .inr (.inr (.inl rfl))
  | 5, _ => exact .inr (.inr (.inr (.inl rfl)))
  | 6, _ => exact .inr (.inr (.inr (.inr rfl)))
  | k + 7, h => exact absurd h (Nat.not_lt.mpr (Nat.le_add_left 7 k))
theorem IsR.place {P : Params} {o : Obj} {oc : List UInt8} {a p : Int} {hl ib : Bool} (h : IsR P o oc a hl ib) (e : p = a - (if ib then 1 else 0)) : 0 ≤ p ∧ p ≤ (oc.length : Int) := by
  refine h.elim ?_
  intro _ _ _ _ _ _ _ _ _ _ _ _ _ _ _ _ _ _ _ _ _ h0 h1 _ h2 h3 _ _
  subst e
  cases ib with
  | true => have := h3 (h2 rfl); simp only [if_true]; omega
  | false => simp only [Bool.false_eq_true, if_false]; omega
theorem unq_in {M : Model} {A : Around} {α : Type} {t : Sem α} {Q : α → Shared → Prop} {E : Value → Shared → Prop} {s : Shared} (H : ∀ Q' E', Q' = Q → E' = E → wpAny M A t Q' E' s) : wpAny M A t Q E s := H Q E rfl rfl
theorem reader_right {w : World} {A₀ : Around} {base h₀ : Heap} {outer : List Env} {L a : Addr} {m : Str → Option Value} {hh0 : Heap} {gn0 : Array GenState} {dr0 : Drawn} {tk0 : Nat} {os0 : OsState} {Q E : Value → Shared → Prop}
  {dp un : Nat} {gd : Option (List Code)} {cn : Str} {cs : Scope} {ccd : Value} {cl : List (Str × Addr)} {loose : List Str} {mean : ExcName → Option Value} {mg mb : Str → Option Value}
  {oc : List UInt8} {t1 : Tok} {lc : Addr} {vs : List Value} {ns : List Int} {ep : Nat} {own : List (Addr × Obj)}
  (B : Below A₀ base outer h₀) (F : Fr h₀ L hh0 m) (X : (hd.heap_1 w.params).In h₀) (T : Top topProg loose mean mg mb h₀) (hk : cs.kind = .function) (hdp : dp < 500) (hun : un < 300)
  (XB : (hd.heap_1 w.params).In base) (TB : Top topProg loose mean mg mb base) (D : KtsDicts (outer.filterMap (·.frame)) h₀) (N : News h₀ L hh0 ((lc, listOf vs.toArray ep) :: (432, tabObj #[]) :: own)) (hoff : OwnOff own [lc, 432]) (hlc : lc ≠ 432) (CD : CodeHd base 436 432) (hi : IntsAre vs ns) (hn : ∀ n ∈ ns, 0 ≤ n ∧ n ≤ 1000000) (hz : ns.length ≤ 63) (hoc : oc.length ≤ 6)
  (ret : ∀ h₀' h' tk ps', KtsTurn (outer.filterMap (·.frame)) h₀ h₀' → Fr h₀' L h' m → News h₀' L h' ((lc, listOf vs.toArray ep) :: (432, tabObj ps') :: own) → Below A₀ base outer h₀' → (hd.heap_1 w.params).In h₀' → Top topProg loose mean mg mb h₀' → KtsDicts (outer.filterMap (·.frame)) h₀' →
    Q (.bool true) (Shared.mk h' gn0 dr0 tk os0)) :
  wpAny (model rw_on0267_01.row.prog w) (ktrTop dp un gd cn cs L a ccd cl outer) (call (.ref 437) [.bytes oc.toArray t1, .ref lc]) Q E (Shared.mk hh0 gn0 dr0 tk0 os0) := by
  have hsz : oc.toArray.size = oc.length := List.size_toArray
  revert X
  k_fill
  intro X
  refine wpAny_call ?_
  k_dflt (refine' code_defCT ?k1 ?k2 ?k3 ?k4 ?k5 ?XB ?TB ?D ?kA ?kF ?kK ?k6 ?k7 ?k8 ?k9 ?kB ?kD ?_ ?c2 ?c3 ?c4; (case kA => exact rfl); (case kF => exact rfl); (case kK => first | exact rfl | assumption); (case k1 => k_asm); (case k2 => k_asm); (case k3 => k_asm); (case k4 => k_asm); (case k5 => k_asm); (case XB => assumption); (case TB => assumption); (case D => assumption); (case k6 => k_is); (case k7 => k_is); (case k8 => k_room); (case k9 => first | exact BindsTo.of_eq rfl | exact binds_K (by k_in) rfl (by k_is) rfl rfl rfl | fail "k_enter: no rule for these arguments"); (case kB => exact rfl); (case kD => decide +kernel); (case c2 => exact rfl); (case c3 => exact rfl); (case c4 => exact rfl); k_whole; intro g' L' h' tk' cells' FG' F' N' Y' B' X' T' l1 D'; (try k_lt l1); k_cells Y'; (try simp only [List.cons_append, List.nil_append] at N'); (try dsimp only); (try k_lift B'); (try k_fold))
  try dsimp only
  have l2 := l1.2.2
  k_steps
  (rename Fr _ _ _ _ => wF); (rename News _ _ _ _ => wN)
  refine' (show (∀ x dx o oi ol op D9 tD, News g' L' _ ((D9, tD) :: (x, instObj 226 dx) :: (dx, o) :: (L' + 1 + 1 + 1, op) :: (L' + 1 + 1, ol) :: (L' + 1, oi) :: (lc, listOf vs.toArray ep) :: (432, tabObj #[]) :: own) → oi.data = .cell (some (.ref x)) → (∃ v, ol.data = .cell v) → (∃ v, op.data = .cell v) → IsR w.params o oc 0 false false → @LT.lt Nat _ (L' + 1 + 1 + 1) dx → @LT.lt Nat _ dx x → AllLt L' own → _) → _ from fun H9 => H9 _ _ _ _ _ _ _ _ wN ?ex0 ?ex1 ?ex2 ?ex3 ?ex4 ?ex5 l2) ?exm
  case ex0 => assumption
  case ex1 => exact ⟨_, by assumption⟩
  case ex2 => exact ⟨_, by assumption⟩
  case ex3 => assumption
  case ex4 => ((try dsimp only); omega)
  case ex5 => ((try dsimp only); omega)
  case exm =>
  (repeat (rename (Obj.data _ = _) => z9; clear z9))
  intro x dx o oi ol op D9 tD N1 e1 e2 e3 R1 q1 q2 q3
  clear wN
  unfold Stop
  revert B F T XB TB D X FG' B' X' T' D' wF N1
  (repeat (rename News _ _ _ _ => z9; clear z9))
  (repeat (rename Fr _ _ _ _ => z9; clear z9))
  (repeat (rename Below _ _ _ _ => z9; clear z9))
  (repeat (rename Top _ _ _ _ _ _ => z9; clear z9))
  (repeat (rename Frag.In _ _ => z9; clear z9))
  intro B F T XB TB D X FG' B' X' T' D' wF N1
  have hlL : @LT.lt Nat _ lc L' := l1.1
  have h4L : @LT.lt Nat _ 432 L' := l1.2.1
  have hS : Srt [L', L' + 1, L' + 1 + 1, L' + 1 + 1 + 1, dx, x] := .cons (Nat.lt_succ_self _) (.cons (Nat.lt_succ_self _) (.cons (Nat.lt_succ_self _) (.cons q1 (.cons q2 ⟨fun _ h => (nomatch h), trivial⟩))))
  have sv0 := Srt.above hlL hS
  have sv1 := Srt.above h4L hS
  have su0 := hS.1
  have su1 := hS.2.1
  have su2 := hS.2.2.1
  have su3 := hS.2.2.2.1
  have su4 := hS.2.2.2.2.1
  clear hS
  have hlx : lc ≠ x := Nat.ne_of_lt (abv (by assumption) (by k_mem))
  have hldx : lc ≠ dx := Nat.ne_of_lt (abv (by assumption) (by k_mem))
  have h4x : (432 : Addr) ≠ x := Nat.ne_of_lt (abv (by assumption) (by k_mem))
  have h4dx : (432 : Addr) ≠ dx := Nat.ne_of_lt (abv (by assumption) (by k_mem))
  with_unfolding_all refine' loop_G (σ := RRSt) (nn := ep) (vs := vs) (fun c => (x, instObj 226 dx) :: (dx, c.o) :: (L' + 1 + 1 + 1, c.cp) :: (L' + 1 + 1, c.cl) :: (L' + 1, c.ci) :: (lc, listOf vs.toArray ep) :: (432, tabObj c.ps) :: (c.ext ++ own)) (fun c => [(Str.ofString "at", .int c.la c.ta), (Str.ofString "can_back", .bool c.cb)]) [Str.ofString "way", Str.ofString "rest", Str.ofString "told", Str.ofString "many", Str.ofString "row", Str.ofString "is_whole", Str.ofString "behind", Str.ofString "left", Str.ofString "due"] (RRP w.params oc x) ⟨o, 0, false, false, 0, _, false, oi, ol, op, #[], []⟩ ?hh ?hl wF (newsTail N1) ?hk ⟨R1, rfl, (fun h => (nomatch h)), e1, e2, e3, .inl ⟨rfl, rfl⟩⟩ ?turn ?done
  case hh => rfl
  case hl => intro c; simp
  case hk => simp; rfl
  case turn =>
    clear wF N1 e1 e2 e3 R1
    intro c pre v u h9 tk9 own' hv hoff' hp F8 N8
    obtain ⟨co, cat, chl, cib, cla, cta, ccb, ci, cl', cp, cps, cext⟩ := c
    have hq8 : _ ∧ _ ∧ _ ∧ _ ∧ _ ∧ _ ∧ _ := hp
    have hR8 := hq8.1
    have hla8 := hq8.2.1
    have hcb8 := hq8.2.2.1
    have hi8 := hq8.2.2.2.1
    have hT8 := hq8.2.2.2.2.2.2
    have hq9 := hq8.2.2.2.2.1
    have hp9 := hq8.2.2.2.2.2.1
    clear hq8 hp
    obtain ⟨vl8, hl8⟩ := hq9
    obtain ⟨vp8, hp8⟩ := hp9
    dsimp only at hR8 hla8 hcb8 hi8 hl8 hp8 hT8 F8 N8
    obtain ⟨n, t9, rfl, hmem⟩ := intsAre_at hi hv
    have hla0 := IsR.place hR8 hla8
    have hext := TabOk.ext_lt hT8
    have hoff9 := hoff'
    simp only [List.map_cons] at hoff9
    clear hoff'
    obtain ⟨tl, htl⟩ : ∃ tl, tl = (cext ++ own) ++ own' := ⟨_, rfl⟩
    have htl2 : ∀ p ∈ own', p ∈ tl := fun p hp => by rw [htl]; exact List.mem_append_right _ hp
    have hkt : ∀ p ∈ own, p ∈ tl := fun p hp => by rw [htl]; exact List.mem_append_left _ (List.mem_append_right _ hp)
    have hke : ∀ p ∈ cext ++ own, p ∈ tl := fun p hp => by rw [htl]; exact List.mem_append_left _ hp
    have hofft : OwnOff tl [lc, 432, L' + 1, L' + 1 + 1, L' + 1 + 1 + 1, dx, x] := by
      rw [htl]
      refine offApp (offApp (offHigh hext ?_) ?_) (offSub hoff9 (by repeat' (first | exact List.forall_mem_nil _ | refine List.forall_mem_cons.mpr ⟨by k_mem, ?_⟩)))
      · (repeat' (first | exact List.forall_mem_nil _ | refine List.forall_mem_cons.mpr ⟨?_, ?_⟩))
        all_goals first | exact Nat.le_refl _ | exact Nat.le_of_lt (abv (by assumption) (by k_mem)) | exact Nat.le_of_lt (by assumption) | omega
      · refine offC (fun p hp => hoff p hp _ (.head _)) (offC (fun p hp => hoff p hp _ (.tail _ (.head _))) (offLow l2 ?_))
        (repeat' (first | exact List.forall_mem_nil _ | refine List.forall_mem_cons.mpr ⟨?_, ?_⟩))
        all_goals first | exact Nat.le_refl _ | exact Nat.le_of_lt (abv (by assumption) (by k_mem)) | omega
    simp only [List.cons_append] at N8
    rw [← htl] at N8
    have hn9 := hn n hmem
    change News g' L' h9 _ at N8
    change Fr g' L' h9 _ at F8
    refine unq_in ?_
    intro Qt Et hQt hEt
    clear hEt
    obtain ⟨Fn, hFn⟩ : ∃ Fn : Obj → Obj → Obj → Obj → List (Addr × Obj), Fn = fun o cl cp tb => (x, instObj 226 dx) :: (dx, o) :: (L' + 1 + 1 + 1, cp) :: (L' + 1 + 1, cl) :: (L' + 1, ci) :: (lc, listOf vs.toArray ep) :: (432, tb) :: tl := ⟨_, rfl⟩
    have N9 : News g' L' h9 (Fn co cl' cp (tabObj cps)) := by rw [hFn]; exact N8
    obtain ⟨m8, hm8, F9⟩ : ∃ m8, m8 = _ ∧ Fr g' L' h9 m8 := ⟨_, rfl, F8⟩
    clear N8 F8
    have hRet : ∀ h tk g'' m' nw ps', KtsTurn (L :: outer.filterMap (·.frame)) g' g'' → Fr g'' L' h m' → News g'' L' h nw → (lc, listOf vs.toArray ep) ∈ nw → (432, tabObj ps') ∈ nw → (∀ p ∈ own, p ∈ nw) → Qt (.ret (.bool true)) (Shared.mk h gn0 dr0 tk os0) := by
      intro h tk g'' m' nw ps' Tn Ff Nf a1 a2 a3
      rw [hQt]
      dsimp only [PostG]
      refine ⟨_, _, _, _, Tn, Ff, Nf, ?_⟩
      intro h₀' T9 F9 N9 B9 X9 P9 D9
      exact ret _ _ _ ps' T9 F9 (newsOf N9 (fun p hp => by
        rcases List.mem_cons.mp hp with rfl | hp
        · exact a1
        · rcases List.mem_cons.mp hp with rfl | hp
          · exact a2
          · exact a3 p hp)) B9 X9 P9 D9
    have hEG : ∀ h tk l o cl cp a p hl ib cb tp ps' ext' nw, Fr g' L' h (mp l m8) → News g' L' h nw → (∀ q ∈ (x, instObj 226 dx) :: (dx, o) :: (L' + 1 + 1 + 1, cp) :: (L' + 1 + 1, cl) :: (L' + 1, ci) :: (lc, listOf vs.toArray ep) :: (432, tabObj ps') :: (ext' ++ own), q ∈ nw) → (∀ q ∈ own', q ∈ nw) →
        OwnOff own' (x :: dx :: (L' + 1 + 1 + 1) :: (L' + 1 + 1) :: (L' + 1) :: lc :: 432 :: List.map (fun x => x.fst) (ext' ++ own)) → TabOk x ps' ext' → IsR w.params o oc a hl ib → p = a - (if ib then 1 else 0) → (cb = true → hl = true ∧ ib = false) → (∃ v, cl.data = .cell v) → (∃ v, cp.data = .cell v) →
        mp l m8 (Str.ofString "at") = some (.int p tp) → mp l m8 (Str.ofString "can_back") = some (.bool cb) → (l.all fun p => [Str.ofString "at", Str.ofString "can_back", Str.ofString "way", Str.ofString "rest", Str.ofString "told", Str.ofString "many", Str.ofString "row", Str.ofString "is_whole", Str.ofString "behind", Str.ofString "left", Str.ofString "due"].contains p.1) = true → Qt .next (Shared.mk h gn0 dr0 tk os0) := by
      intro h tk l o cl cp a p hl ib cb tp ps' ext' nw Ff Nf hn ho hof hT R1 R2 R3 c1 c2 k1 k2 k3
      rw [hQt]
      dsimp only [PostG]
      refine endG ⟨o, a, hl, ib, p, tp, cb, ci, cl, cp, ps', ext'⟩ Ff Nf hn ho ?_ (by simp only [List.map_cons]; exact hof) ?_ ?_ ⟨R1, R2, R3, hi8, c1, c2, hT⟩
      · k_memK
      · intro q hq
        rcases List.mem_cons.mp hq with rfl | hq
        · exact k1
        · rw [List.mem_singleton.mp hq]; exact k2
      · intro z h1 h2 h3
        have e1 : z ≠ Str.ofString "at" := h2 _ (.head _)
        have e2 : z ≠ Str.ofString "can_back" := h2 _ (.tail _ (.head _))
        rw [mp_other ?_, hm8]
        · have h4 := h3
          simp only [List.contains_cons, List.contains_nil, Bool.or_false, Bool.or_eq_false_iff, beq_eq_false_iff_ne, ne_eq] at h3
          simp only [h1, e1, e2, h4, kstB, if_false, Bool.false_eq_true]
        · intro q hq e
          have := List.all_eq_true.mp k3 q hq
          rw [← e, List.contains_cons, List.contains_cons, show (z == Str.ofString "at") = false from beq_eq_false_iff_ne.mpr e1, show (z == Str.ofString "can_back") = false from beq_eq_false_iff_ne.mpr e2, h3] at this
          cases this
    have hE : ∀ h tk l o cl cp a p hl ib cb tp, Fr g' L' h (mp l m8) → News g' L' h (Fn o cl cp (tabObj cps)) → IsR w.params o oc a hl ib → p = a - (if ib then 1 else 0) → (cb = true → hl = true ∧ ib = false) → (∃ v, cl.data = .cell v) → (∃ v, cp.data = .cell v) →
        mp l m8 (Str.ofString "at") = some (.int p tp) → mp l m8 (Str.ofString "can_back") = some (.bool cb) → (l.all fun p => [Str.ofString "at", Str.ofString "can_back", Str.ofString "way", Str.ofString "rest", Str.ofString "told", Str.ofString "many", Str.ofString "row", Str.ofString "is_whole", Str.ofString "behind", Str.ofString "left", Str.ofString "due"].contains p.1) = true → Qt .next (Shared.mk h gn0 dr0 tk os0) := by
      intro h tk l o cl cp a p hl ib cb tp Ff Nf
      rw [hFn] at Nf
      refine hEG h tk l o cl cp a p hl ib cb tp cps cext _ Ff Nf (fun p hp => sub7 hke p hp) (fun p hp => ?_) hoff9 hT8
      have hp' : p ∈ tl := htl2 p hp
      k_ownIn
    have mx : ∀ o cl cp tb, (x, instObj 226 dx) ∈ Fn o cl cp tb := by intro o cl cp tb; rw [hFn]; exact .head _
    have md : ∀ o cl cp tb, (dx, o) ∈ Fn o cl cp tb := by intro o cl cp tb; rw [hFn]; exact .tail _ (.head _)
    have m3 : ∀ o cl cp tb, (L' + 1 + 1 + 1, cp) ∈ Fn o cl cp tb := by intro o cl cp tb; rw [hFn]; exact .tail _ (.tail _ (.head _))
    have m2 : ∀ o cl cp tb, (L' + 1 + 1, cl) ∈ Fn o cl cp tb := by intro o cl cp tb; rw [hFn]; exact .tail _ (.tail _ (.tail _ (.head _)))
    have m1 : ∀ o cl cp tb, (L' + 1, ci) ∈ Fn o cl cp tb := by intro o cl cp tb; rw [hFn]; exact .tail _ (.tail _ (.tail _ (.tail _ (.head _))))
    have mlc : ∀ o cl cp tb, (lc, listOf vs.toArray ep) ∈ Fn o cl cp tb := by intro o cl cp tb; rw [hFn]; exact .tail _ (.tail _ (.tail _ (.tail _ (.tail _ (.head _)))))
    have mtb : ∀ o cl cp tb, (432, tb) ∈ Fn o cl cp tb := by intro o cl cp tb; rw [hFn]; exact .tail _ (.tail _ (.tail _ (.tail _ (.tail _ (.tail _ (.head _))))))
    have mtl : ∀ o cl cp tb, ∀ p ∈ tl, p ∈ Fn o cl cp tb := by intro o cl cp tb p hp; rw [hFn]; exact .tail _ (.tail _ (.tail _ (.tail _ (.tail _ (.tail _ (.tail _ hp))))))
    have uo : ∀ o cl cp tb, UpdF dx o (Fn o cl cp tb) (fun o' => Fn o' cl cp tb) := by intro o cl cp tb; rw [hFn]; dsimp only; k_updF
    have u3 : ∀ o cl cp tb, UpdF (L' + 1 + 1 + 1) cp (Fn o cl cp tb) (fun cp' => Fn o cl cp' tb) := by intro o cl cp tb; rw [hFn]; dsimp only; k_updF
    have u2 : ∀ o cl cp tb, UpdF (L' + 1 + 1) cl (Fn o cl cp tb) (fun cl' => Fn o cl' cp tb) := by intro o cl cp tb; rw [hFn]; dsimp only; k_updF
    have ut : ∀ o cl cp tb, UpdF 432 tb (Fn o cl cp tb) (fun tb' => Fn o cl cp tb') := by intro o cl cp tb; rw [hFn]; dsimp only; k_updF
    have noc : m8 (Str.ofString "octets") = some (.bytes oc.toArray t1) := by rw [hm8]; rfl
    have nce : m8 (Str.ofString "cell") = some (.int n t9) := by rw [hm8]; rfl
    have nat_ : m8 (Str.ofString "at") = some (.int cla cta) := by rw [hm8]; rfl
    have ncb : m8 (Str.ofString "can_back") = some (.bool ccb) := by rw [hm8]; rfl
    clear hQt hm8
    k_with "pe" => first
      | exact PE.ci | exact PE.cb | exact PE.cNone | exact PE.ct
      | exact PE.toI (PE.nm rfl) | exact PE.toB (PE.nm rfl) | exact PE.nm rfl
      | exact PE.toI (PE.nm (by assumption)) | exact PE.toB (PE.nm (by assumption)) | exact PE.nm (by assumption)
      | exact PE.toI (PE.nmC (m2 _ _ _ _) (by assumption) rfl) | exact PE.toI (PE.nmC (m3 _ _ _ _) (by assumption) rfl) | exact PE.nmC (m1 _ _ _ _) (by assumption) rfl | exact PE.toI (PE.nmC (.tail _ (m3 _ _ _ _)) (by assumption) rfl)
      | (apply PE.bin; (· walk_at "pe"); (· walk_at "pe"); (· walk_at "bi"))
      | (apply PE.neg; walk_at "pe")
      | ((with_reducible show PE _ _ _ _ _ _ _ (Expr.Call _ _ _ _) _); exact PE.len (by assumption) (topRead_of (by assumption)) (by k_is) (by walk_at "pe") (by first | exact Nat.le_trans hoc (Nat.le_of_ble_eq_true rfl) | omega))
      | (apply PE.item; (· walk_at "pe"); (· walk_at "pe"); (· rfl); (· omega); (· omega); (· omega); (· (intro _ _; with_unfolding_all rfl)); (· (intro _ _; with_unfolding_all rfl)))
      | (apply PE.slij; (· walk_at "pe"); (· walk_at "pe"); (· walk_at "pe"); (· omega); (· omega); (· omega); (· (intro _ _; with_unfolding_all rfl)); (· (intro _ _; with_unfolding_all rfl)))
      | (apply PE.sli; (· walk_at "pe"); (· walk_at "pe"); (· omega); (· omega); (· (intro _ _; with_unfolding_all rfl)); (· (intro _ _; with_unfolding_all rfl)))
      | (apply PE.sln; (· walk_at "pe"); (· walk_at "pe"); (· omega); (· (intro _ _; with_unfolding_all rfl)); (· (intro _ _; with_unfolding_all rfl)))
      | (apply PE.cmp; (· walk_at "pe"); (· walk_at "pe"); (· walk_at "cm"); (· rfl))
    k_with "bi" => first | exact Bi.add | exact Bi.sub | exact Bi.mod (by first | decide | omega) | exact Bi.div (by decide) (PyProof.noPylong_of_log2 (by decide +kernel)) | exact Bi.addB (by omega)
    k_with "cm" => first | exact Cm.lt | exact Cm.gt | exact Cm.eq | exact Cm.ne | exact Cm.eqB | exact Cm.neB | exact Cm.isNN | exact Cm.isIN | exact Cm.notNN | exact Cm.notBN
    k_with "pt" => first
      | (apply PT.cmp; (· walk_at "pe"); (· walk_at "pe"); (· walk_at "cm"); (· rfl))
      | (apply PT.or; (· walk_at "pt"); (· walk_at "pt"))
      | (apply PT.and; (· walk_at "pt"); (· walk_at "pt"))
      | (apply PT.nt; walk_at "pt")
      | exact PT.vl (PE.nm rfl) | exact PT.vl (PE.nm (by assumption))
    have F9 : Fr g' L' h9 (mp [] m8) := F9
    have hTr : TriplesOk cps.toList := by rcases hT8 with ⟨h, _⟩ | ⟨_, _, _, _, h, _⟩ <;> rw [h] <;> kn_triples
    have CDg : CodeHd g' 436 432 := CodeHd.keeps CD (Below.stays B')
    have hKeep : ∀ o cl cp tb, ∀ p ∈ (lc, listOf vs.toArray ep) :: (432, tb) :: own, p ∈ Fn o cl cp tb ∧ p.1 ≠ x ∧ p.1 ≠ dx := by
      intro o cl cp tb p hp
      rcases List.mem_cons.mp hp with rfl | hp
      · exact ⟨mlc _ _ _ _, hlx, hldx⟩
      · rcases List.mem_cons.mp hp with rfl | hp
        · exact ⟨mtb _ _ _ _, h4x, h4dx⟩
        · exact ⟨mtl _ _ _ _ p (hkt p hp), hofft p (hkt p hp) x (by simp), hofft p (hkt p hp) dx (by simp)⟩
    have hw1 : 0 ≤ (n.fdiv 7).fmod 6 ∧ (n.fdiv 7).fmod 6 < 6 := ⟨Int.fmod_nonneg_of_pos _ (by decide), Int.fmod_lt_of_pos _ (by decide)⟩
    have hw0 : 0 ≤ n.fmod 7 ∧ n.fmod 7 < 7 := ⟨Int.fmod_nonneg_of_pos _ (by decide), Int.fmod_lt_of_pos _ (by decide)⟩
    refine' St.asg2 F9 N9 ?z0_ ?z1_ ?z2_
    case z0_ => walk_at "pe"
    case z1_ => walk_at "pe"
    case z2_ =>
    intro h9 tk9 ta9 tb9 F9 N9
    have hb5 : (n.fmod 7 == 0 || (n.fmod 7 == 5 && !ccb)) = true ∨ (n.fmod 7 == 0 || (n.fmod 7 == 5 && !ccb)) = false := by cases (n.fmod 7 == 0 || (n.fmod 7 == 5 && !ccb)) <;> simp
    rcases hb5 with hb5 | hb5
    · skip
      refine' St.ifTl F9 N9 (PT.cast ?z3_ ?z4_) ?z5_
      case z3_ => walk_at "pt"
      case z4_ => exact hb5
      case z5_ =>
      intro h9 tk9 F9 N9
      refine St.asgI ?_
      refine' meth0 F9 N9 X' ?z6_ (mx _ _ _ _) (md _ _ _ _) (noM_R hR8 (by k_mem)) ?z7_ ?z8_ ?z9_ ?z10_ ?z11_
      case z6_ => walk_at "pe"
      case z7_ => k_is
      case z8_ => k_is
      case z9_ => k_is
      case z10_ => k_is
      case z11_ =>
      intro h9 tk9 F9 N9
      refine' next_RL B' F9 X' T' rfl ?z13_ ?z14_ N9 (mx _ _ _ _) (uo _ _ _ _) hR8 hla8  ?z15_ ?z16_
      case z13_ => walk_at "hd9"
      case z14_ => walk_at "hu9"
      case z15_ =>
        intro hlt o9 a9 t9 h9 tk9 R9 hp9 F9 N9
        refine stL F9 N9 ?_
        intro h9 tk9 F9 N9
        refine' St.ifN F9 N9 (PT.cast ?z17_ ?z18_) ?z19_
        case z17_ => walk_at "pt"
        case z18_ => exact beq_eq_false_iff_ne.mpr (by omega)
        case z19_ =>
        intro h9 tk9 F9 N9
        refine' St.ifN F9 N9 (PT.cast ?z20_ ?z21_) ?z22_
        case z20_ => walk_at "pt"
        case z21_ => exact bne_self_eq_false _
        case z22_ =>
        intro h9 tk9 F9 N9
        refine' St.asg2 F9 N9 ?z23_ ?z24_ ?z25_
        case z23_ => walk_at "pe"
        case z24_ => walk_at "pe"
        case z25_ =>
        intro h9 tk9 ta9 tb9 F9 N9
        refine wpAny_execs_nil ?_
        exact hE _ _ _ _ _ _ _ _ _ _ true _ F9 N9 R9 hp9 (fun _ => ⟨rfl, rfl⟩) ⟨_, hl8⟩ ⟨_, hp8⟩ rfl rfl rfl
      case z16_ =>
        intro heq o9 a9 h9 tk9 R9 F9 N9
        refine stL F9 N9 ?_
        intro h9 tk9 F9 N9
        refine' St.ifR F9 N9 (PT.cast ?z26_ ?z27_) ?z28_
        case z26_ => walk_at "pt"
        case z27_ => exact beq_iff_eq.mpr heq
        case z28_ =>
        intro h9 tk9 F9 N9
        refine' and_cons F9 N9 ?z29_ ?z30_
        case z29_ => walk_at "pe"
        case z30_ =>
        intro h9 tk9 F9 N9
        refine BoolOp_one ?_
        refine' fun1 F9 N9 X' (topRead_of T') ?z35_ ?z36_ ?z37_ ?z38_
        case z35_ => k_is
        case z36_ => k_is
        case z37_ => walk_at "pe"
        case z38_ =>
        intro h9 tk9 ta9 F9 N9
        refine' ended_K (keep := (lc, listOf vs.toArray ep) :: (432, tabObj cps) :: own) B' F9 X' T' rfl ?z31_ ?z32_ XB TB D' N9 (mx _ _ _ _) (uo _ _ _ _) R9 (hKeep _ _ _ _) ?z33_
        case z31_ => walk_at "hd9"
        case z32_ => walk_at "hu9"
        case z33_ =>
        intro g7 h7 tk7 T7 F7 N7 _ _ _ _
        exact hRet _ _ _ _ _ _ T7 F7 N7 (.head _) (.tail _ (.head _)) (fun p hp => .tail _ (.tail _ hp))
    · skip
      refine' St.ifFl F9 N9 (PT.cast ?z39_ ?z40_) ?z41_
      case z39_ => walk_at "pt"
      case z40_ => exact hb5
      case z41_ =>
      intro h9 tk9 F9 N9
      have hne0 : n.fmod 7 ≠ 0 := fun h => by rw [h] at hb5; cases hb5
      rcases fm7 (show 0 ≤ n.fmod 7 ∧ n.fmod 7 < 7 by assumption) hne0 with hway | hway | hway | hway | hway
      · skip
        refine' St.ifTl F9 N9 (PT.cast ?z42_ ?z43_) ?z44_
        case z42_ => walk_at "pt"
        case z43_ => (rw [hway]; rfl)
        case z44_ =>
        intro h9 tk9 F9 N9
        refine' St.asg F9 N9 ?z45_ ?z46_
        case z45_ => walk_at "pe"
        case z46_ =>
        intro h9 tk9 t9 F9 N9
        refine St.ifC ?_
        refine' meth1 F9 N9 X' ?z47_ ?z53_ (mx _ _ _ _) (md _ _ _ _) (noM_R hR8 (by k_mem)) ?z48_ ?z49_ ?z50_ ?z51_ ?z52_
        case z47_ => walk_at "pe"
        case z53_ => walk_at "pe"
        case z48_ => k_is
        case z49_ => k_is
        case z50_ => k_is
        case z51_ => k_is
        case z52_ =>
        intro h9 tk9 ta9 F9 N9
        refine' read_RL B' F9 X' T' rfl ?z54_ ?z55_ N9 (mx _ _ _ _) (uo _ _ _ _) hR8 hla8 hw1.1 (by omega) ?z56_ ?z57_
        case z54_ => walk_at "hd9"
        case z55_ => walk_at "hu9"
        case z56_ =>
          intro hle o9 t9 h9 tk9 a9 hl9 ib9 R9 hp9 F9 N9
          skip
          refine' CmpR.use (x1 := .bytes _) F9 N9 ?z58_ (Cm.cast Cm.neB ?z59_) ?z60_
          case z58_ => walk_at "pe"
          case z59_ => exact decide_eq_false (fun h => h (by rw [gap hla0.1 hw1.1]))
          case z60_ =>
          intro h9 tk9 F9 N9
          refine IfR.no ?_
          refine' St.ifN F9 N9 (PT.cast ?z61_ ?z62_) ?z63_
          case z61_ => walk_at "pt"
          case z62_ => exact decide_eq_false (by omega)
          case z63_ =>
          intro h9 tk9 F9 N9
          refine' St.asg2 F9 N9 ?z64_ ?z65_ ?z66_
          case z64_ => walk_at "pe"
          case z65_ => walk_at "pe"
          case z66_ =>
          intro h9 tk9 ta9 tb9 F9 N9
          refine wpAny_execs_nil ?_
          exact hE _ _ _ _ _ _ _ _ _ _ false _ F9 N9 R9 hp9 (fun h => (nomatch h)) ⟨_, hl8⟩ ⟨_, hp8⟩ rfl rfl rfl
        case z57_ =>
          intro hle o9 t9 h9 tk9 a9 R9 F9 N9
          skip
          refine' CmpR.use (x1 := .bytes _) F9 N9 ?z67_ (Cm.cast Cm.neB ?z68_) ?z69_
          case z67_ => walk_at "pe"
          case z68_ => exact decide_eq_false (fun h => h (by rw [gap hla0.1 hw1.1]))
          case z69_ =>
          intro h9 tk9 F9 N9
          refine IfR.no ?_
          refine' St.ifR F9 N9 (PT.cast ?z70_ ?z71_) ?z72_
          case z70_ => walk_at "pt"
          case z71_ => exact decide_eq_true (by omega)
          case z72_ =>
          intro h9 tk9 F9 N9
          refine' fun1 F9 N9 X' (topRead_of T') ?z77_ ?z78_ ?z79_ ?z80_
          case z77_ => k_is
          case z78_ => k_is
          case z79_ => walk_at "pe"
          case z80_ =>
          intro h9 tk9 ta9 F9 N9
          refine' ended_K (keep := (lc, listOf vs.toArray ep) :: (432, tabObj cps) :: own) B' F9 X' T' rfl ?z73_ ?z74_ XB TB D' N9 (mx _ _ _ _) (uo _ _ _ _) R9 (hKeep _ _ _ _) ?z75_
          case z73_ => walk_at "hd9"
          case z74_ => walk_at "hu9"
          case z75_ =>
          intro g7 h7 tk7 T7 F7 N7 _ _ _ _
          exact hRet _ _ _ _ _ _ T7 F7 N7 (.head _) (.tail _ (.head _)) (fun p hp => .tail _ (.tail _ hp))
      · skip
        refine' St.ifFl F9 N9 (PT.cast ?z81_ ?z82_) ?z83_
        case z81_ => walk_at "pt"
        case z82_ => (rcases hway with h | h <;> (rw [h]; rfl))
        case z83_ =>
        intro h9 tk9 F9 N9
        refine' St.ifTl F9 N9 (PT.cast ?z84_ ?z85_) ?z86_
        case z84_ => walk_at "pt"
        case z85_ => (rcases hway with h | h <;> (rw [h]; rfl))
        case z86_ =>
        intro h9 tk9 F9 N9
        refine St.asgT ?_
        refine' fun2 F9 N9 X' (topRead_of T') ?z87_ ?z88_ ?z89_ ?z90_ ?z91_
        case z87_ => k_is
        case z88_ => k_is
        case z89_ => walk_at "pe"
        case z90_ => walk_at "pe"
        case z91_ =>
        intro h9 tk9 ta9 tb9 F9 N9
        refine' law_row1 B' F9 X' T' rfl ?z92_ N9 (mx _ _ _ _) (upd_mem (uo _ _ _ _)) hR8 hla0.1 hla0.2 (Nat.le_trans hoc (Nat.le_of_ble_eq_true rfl)) ?z94_
        case z92_ => walk_at "hd9"
        case z94_ =>
        intro isw beh tp tr9 te9 h9 tk9 hrow F8 N8
        refine unp3 F8 N8 (.head _) ?_
        clear F8 N8
        intro h9 tk9 F9 N9
        replace N9 := newsTail N9
        have hw23 : 0 ≤ n.fmod 7 - 2 ∧ n.fmod 7 - 2 < 2 := by omega
        have hlm : 0 ≤ [(n.fdiv 7).fmod 4, 99].getD (n.fmod 7 - 2).toNat 0 ∧ [(n.fdiv 7).fmod 4, 99].getD (n.fmod 7 - 2).toNat 0 ≤ 2000 := by
          have h4 : (0 : Int) ≤ (n.fdiv 7).fmod 4 ∧ (n.fdiv 7).fmod 4 < 4 := ⟨Int.fmod_nonneg_of_pos _ (by decide), Int.fmod_lt_of_pos _ (by decide)⟩
          rcases hway with h | h
          · rw [h]; exact ⟨h4.1, Int.le_of_lt (Int.lt_trans h4.2 (by decide))⟩
          · rw [h]; exact ⟨(show (0 : Int) ≤ 99 by decide), (show (99 : Int) ≤ 2000 by decide)⟩
        refine St.asgI ?_
        refine' PE.run (PE.menu2 ?z95_ ?z96_ ?z97_ hw23.1 hw23.2) _ _ _ F9 N9 ?z98_
        case z95_ => walk_at "pe"
        case z96_ => walk_at "pe"
        case z97_ => (intro nw'; walk_at "pe")
        case z98_ =>
        intro h9 tk9 tl9 F9 N9
        refine stC F9 N9 (u2 _ _ _ _) hl8 ?_ rfl
        intro h9 tk9 c9 F9 N9 hc9
        dsimp only [AV.v] at hc9
        generalize [(n.fdiv 7).fmod 4, 99].getD (n.fmod 7 - 2).toNat 0 = lim at hlm hc9
        have hrow9 := row_len oc cla.toNat
        by_cases hl9 : lim < ((rowOf oc cla.toNat).length : Int)
        · skip
          refine' St.ifR F9 N9 (PT.cast ?z99_ ?z100_) ?z101_
          case z99_ => walk_at "pt"
          case z100_ => exact decide_eq_true hl9
          case z101_ =>
          intro h9 tk9 F9 N9
          refine cmpI ?_
          refine' fun1I F9 X' (topRead_of T') ?z102_ ?z103_ ?z104_
          case z102_ => k_is
          case z103_ => k_is
          case z104_ =>
          refine' lam_any (gt := fun tb => Fn co c9 cp tb) F9 N9 T' CDg rfl (ut _ _ _ _) hTr ?z105_ ?z106_
          case z105_ => exact .inl (by rcases hT8 with ⟨h, _⟩ | ⟨_, _, _, _, h, _⟩ <;> rw [h] <;> kn_among)
          case z106_ =>
          intro fl c6 oc6 vs6 t6 ctv6 ps6 h9 tk9 F9 N9 d61 d62 lt6 hps6
          refine ⟨X'.keeps F9.keep, ?_⟩
          have hcd : dx < c6 := by
            rcases hps6 with ⟨_, _, h⟩ | ⟨_, h, _⟩
            · exact h _ (md _ _ _ _)
            · exact absurd h (by rcases hT8 with ⟨h, _⟩ | ⟨_, _, _, _, h, _⟩ <;> rw [h] <;> (intro hh; cases hh))
          have hfd : dx < fl := lt6 _ (md _ _ _ _)
          refine' refused_raise (news' := (lc, listOf vs.toArray ep) :: (432, tabObj ps6) :: own) (v := #[114, 97, 110, 103, 101, 99, 104, 101, 99, 107]) B' F9 X' T' rfl ?z110_ ?z111_ XB TB D' N9 (refuses_lam (.head _) (.tail _ (.head _)) d61 d62 ?z112_ (fun _ => BindsTo.of_eq rfl) ?z113_) ?z114_
          case z110_ => walk_at "hd9"
          case z111_ => walk_at "hu9"
          case z112_ => exact dltA hdp 1 rfl
          case z113_ =>
            intro L8 L7 g7 s7 Q7 E7 B7 F7 X7 N7 T7 RE7
            refine' meth1 F7 N7 X7 (PE.nmF (.tail _ (.tail _ (m1 _ _ _ _))) hi8 rfl) (PE.toI (PE.nmF (.tail _ (.tail _ (m2 _ _ _ _))) hc9 rfl)) (.tail _ (.tail _ (mx _ _ _ _))) (.tail _ (.tail _ (md _ _ _ _))) (noM_R hR8 (by k_mem)) ?z122_ ?z123_ ?z124_ ?z125_ ?z126_
            case z122_ => k_is
            case z123_ => k_is
            case z124_ => k_is
            case z125_ => k_is
            case z126_ =>
            intro h7 tk7 t7 F7 N7
            refine' line_RL (g := fun o' => _ :: _ :: Fn o' _ _ _) B7 F7 X7 T7 rfl ?z127_ ?z128_ N7 (.tail _ (.tail _ (mx _ _ _ _))) (.tail (Nat.ne_of_gt hfd) (.tail (Nat.ne_of_gt hcd) (uo _ _ _ _))) hR8 hla8 hlm.1 hlm.2 ?z118_ ?z119_ ?z120_ ?z121_
            case z127_ => walk_at "hd9"
            case z128_ => walk_at "hu9"
            case z118_ => exact fun h => absurd h (Int.not_le.mpr hl9)
            case z119_ => exact fun h => absurd h (Int.not_le.mpr hl9)
            case z120_ => exact fun h => absurd h (Int.not_le.mpr hl9)
            case z121_ =>
            intro _ o7 a7 hl7 ib7 G e7 de7 hsh7 k7 n7 tk7 tk8 h8 R7 FG7 RE U7
            exact RE7 G e7 de7 hsh7 k7 n7 tk7 tk8 h8 FG7 (raisedSub RE (fun p hp => by
              rcases List.mem_cons.mp hp with rfl | hp
              · exact .head _
              · rcases List.mem_cons.mp hp with rfl | hp
                · exact .tail _ (.tail _ (.tail _ (mlc _ _ _ _)))
                · rcases List.mem_cons.mp hp with rfl | hp
                  · exact .tail _ (.tail _ (.tail _ (mtb _ _ _ _)))
                  · exact .tail _ (.tail _ (.tail _ (mtl _ _ _ _ p (hkt p hp)))))) U7
          case z114_ =>
          intro g7 h9 tk9 tv7 T7 F9 N9 _ _ _ _
          refine' CmpV.use (x1 := .bytes [114, 97, 110, 103, 101, 99, 104, 101, 99, 107]) (q := true) F9 N9 ?z134_ (Cm.cast Cm.eqB (decide_eq_true rfl)) ?z135_
          case z134_ => walk_at "pe"
          case z135_ =>
          intro h9 tk9 F9 N9
          exact hRet _ _ _ _ _ _ T7 F9 N9 (.head _) (.tail _ (.head _)) (fun p hp => .tail _ (.tail _ hp))
        · skip
          refine' St.ifN F9 N9 (PT.cast ?z136_ ?z137_) ?z138_
          case z136_ => walk_at "pt"
          case z137_ => exact decide_eq_false hl9
          case z138_ =>
          intro h9 tk9 F9 N9
          refine St.ifC ?_
          refine' tuple1I F9 X' (topRead_of T') ?z139_ ?z140_
          case z139_ => k_is
          case z140_ =>
          refine' meth1 F9 N9 X' ?z141_ ?z147_ (mx _ _ _ _) (md _ _ _ _) (noM_R hR8 (by k_mem)) ?z142_ ?z143_ ?z144_ ?z145_ ?z146_
          case z141_ => walk_at "pe"
          case z147_ => walk_at "pe"
          case z142_ => k_is
          case z143_ => k_is
          case z144_ => k_is
          case z145_ => k_is
          case z146_ =>
          intro h9 tk9 ta9 F9 N9
          refine' line_RL B' F9 X' T' rfl ?z148_ ?z149_ N9 (mx _ _ _ _) (uo _ _ _ _) hR8 hla8 hlm.1 hlm.2 ?z150_ ?z151_ ?z152_ ?z153_
          case z148_ => walk_at "hd9"
          case z149_ => walk_at "hu9"
          case z150_ =>
            intro _ he9 h139 o9 tp9 t9 h9 tk9 a9 hl9 ib9 R9 hp9 F9 N9
            refine ⟨_, _, rfl, News.isTup N9 (.head _), ?_⟩
            have hisw : isw = true := by
              rcases hrow with ⟨h1, h2, _⟩ | ⟨h1, h2, _⟩
              · first | exact h1 | (exfalso; omega)
              · first | exact h1 | (exfalso; omega)
            refine' CmpR.tup2 (q := false) F9 N9 (.head _) ?z154_ ?z155_ ?z156_ ?z158_ ?z157_
            case z154_ => exact PE.toB (PE.nm rfl)
            case z155_ => exact PE.nm rfl
            case z156_ => ((try simp only [units_in1, units_deeper, Around.mark_units, units_caller]); (try dsimp only [ktrTop]); (have hcL9 := cLine_is); omega)
            case z158_ => (rw [hisw]; simp)
            case z157_ =>
            intro h9 tk9 F9 N9
            replace N9 := newsTail N9
            refine IfR.no ?_
            refine' St.ifN F9 N9 (PT.cast ?z159_ ?z160_) ?z161_
            case z159_ => walk_at "pt"
            case z160_ => (rw [hisw]; rfl)
            case z161_ =>
            intro h9 tk9 F9 N9
            have hbeh : beh = (behindOf oc cla.toNat : Int) := by
              rcases hrow with ⟨h1, _⟩ | ⟨_, _, _, h⟩
              · rw [hisw] at h1; cases h1
              · exact h
            rcases (show ((beh == (oc.length : Int)) && decide (oc.drop (oc.length - 1) = [13])) = true ∨ ((beh == (oc.length : Int)) && decide (oc.drop (oc.length - 1) = [13])) = false by cases ((beh == (oc.length : Int)) && decide (oc.drop (oc.length - 1) = [13])) <;> simp) with hbe | hbe
            · skip
              refine' St.ifR F9 N9 (PT.cast ?z162_ ?z163_) ?z164_
              case z162_ => walk_at "pt"
              case z163_ => exact hbe
              case z164_ =>
              intro h9 tk9 F9 N9
              refine PE.ct.run _ _ _ F9 N9 fun h9 tk9 _ F9 N9 => ?_
              exact hRet _ _ _ _ _ _ .refl F9 N9 (mlc _ _ _ _) (mtb _ _ _ _) (fun p hp => mtl _ _ _ _ p (hkt p hp))
            · skip
              refine' St.ifN F9 N9 (PT.cast ?z165_ ?z166_) ?z167_
              case z165_ => walk_at "pt"
              case z166_ => exact hbe
              case z167_ =>
              intro h9 tk9 F9 N9
              refine' St.asg2 F9 N9 ?z168_ ?z169_ ?z170_
              case z168_ => walk_at "pe"
              case z169_ => walk_at "pe"
              case z170_ =>
              intro h9 tk9 ta9 tb9 F9 N9
              refine wpAny_execs_nil ?_
              exact hE _ _ _ _ _ _ _ _ _ _ false _ F9 N9 R9 (hbeh.trans hp9) (fun h => (nomatch h)) ⟨_, hc9⟩ ⟨_, hp8⟩ rfl rfl rfl
          case z151_ =>
            intro _ he9 h139 o9 tp9 t9 h9 tk9 a9 R9 F9 N9
            refine ⟨_, _, rfl, News.isTup N9 (.head _), ?_⟩
            have hisw : isw = true := by
              rcases hrow with ⟨h1, h2, _⟩ | ⟨h1, h2, _⟩
              · first | exact h1 | (exfalso; omega)
              · first | exact h1 | (exfalso; omega)
            refine' CmpR.tup2 (q := false) F9 N9 (.head _) ?z171_ ?z172_ ?z173_ ?z175_ ?z174_
            case z171_ => exact PE.toB (PE.nm rfl)
            case z172_ => exact PE.nm rfl
            case z173_ => ((try simp only [units_in1, units_deeper, Around.mark_units, units_caller]); (try dsimp only [ktrTop]); (have hcL9 := cLine_is); omega)
            case z175_ => (rw [hisw]; simp)
            case z174_ =>
            intro h9 tk9 F9 N9
            replace N9 := newsTail N9
            refine IfR.no ?_
            refine' St.ifN F9 N9 (PT.cast ?z176_ ?z177_) ?z178_
            case z176_ => walk_at "pt"
            case z177_ => (rw [hisw]; rfl)
            case z178_ =>
            intro h9 tk9 F9 N9
            have hbeh : beh = (behindOf oc cla.toNat : Int) := by
              rcases hrow with ⟨h1, _⟩ | ⟨_, _, _, h⟩
              · rw [hisw] at h1; cases h1
              · exact h
            obtain ⟨hbl, hbd⟩ := end_cr he9 h139
            refine' St.ifR F9 N9 (PT.cast ?z179_ ?z180_) ?z181_
            case z179_ => walk_at "pt"
            case z180_ => (rw [hbeh, hbl, hbd]; simp)
            case z181_ =>
            intro h9 tk9 F9 N9
            refine PE.ct.run _ _ _ F9 N9 fun h9 tk9 _ F9 N9 => ?_
            exact hRet _ _ _ _ _ _ .refl F9 N9 (mlc _ _ _ _) (mtb _ _ _ _) (fun p hp => mtl _ _ _ _ p (hkt p hp))
          case z152_ =>
            intro _ he9 o9 tp9 t9 h9 tk9 a9 R9 F9 N9
            refine ⟨_, _, rfl, News.isTup N9 (.head _), ?_⟩
            have hisw : isw = false := by
              rcases hrow with ⟨h1, h2, _⟩ | ⟨h1, h2, _⟩
              · first | exact h1 | (exfalso; omega)
              · first | exact h1 | (exfalso; omega)
            refine' CmpR.tup2 (q := false) F9 N9 (.head _) ?z182_ ?z183_ ?z184_ ?z186_ ?z185_
            case z182_ => exact PE.toB (PE.nm rfl)
            case z183_ => exact PE.nm rfl
            case z184_ => ((try simp only [units_in1, units_deeper, Around.mark_units, units_caller]); (try dsimp only [ktrTop]); (have hcL9 := cLine_is); omega)
            case z186_ => (rw [hisw]; simp)
            case z185_ =>
            intro h9 tk9 F9 N9
            replace N9 := newsTail N9
            refine IfR.no ?_
            refine' St.ifR F9 N9 (PT.cast ?z187_ ?z188_) ?z189_
            case z187_ => walk_at "pt"
            case z188_ => (rw [hisw]; rfl)
            case z189_ =>
            intro h9 tk9 F9 N9
            refine' fun1 F9 N9 X' (topRead_of T') ?z194_ ?z195_ ?z196_ ?z197_
            case z194_ => k_is
            case z195_ => k_is
            case z196_ => walk_at "pe"
            case z197_ =>
            intro h9 tk9 ta9 F9 N9
            refine' ended_K (keep := (lc, listOf vs.toArray ep) :: (432, tabObj cps) :: own) B' F9 X' T' rfl ?z190_ ?z191_ XB TB D' N9 (mx _ _ _ _) (uo _ _ _ _) R9 (hKeep _ _ _ _) ?z192_
            case z190_ => walk_at "hd9"
            case z191_ => walk_at "hu9"
            case z192_ =>
            intro g7 h7 tk7 T7 F7 N7 _ _ _ _
            exact hRet _ _ _ _ _ _ T7 F7 N7 (.head _) (.tail _ (.head _)) (fun p hp => .tail _ (.tail _ hp))
          case z153_ => exact fun h => absurd h hl9
      · skip
        refine' St.ifFl F9 N9 (PT.cast ?z198_ ?z199_) ?z200_
        case z198_ => walk_at "pt"
        case z199_ => (rw [hway]; rfl)
        case z200_ =>
        intro h9 tk9 F9 N9
        refine' St.ifFl F9 N9 (PT.cast ?z201_ ?z202_) ?z203_
        case z201_ => walk_at "pt"
        case z202_ => (rw [hway]; rfl)
        case z203_ =>
        intro h9 tk9 F9 N9
        refine' St.ifTl F9 N9 (PT.cast ?z204_ ?z205_) ?z206_
        case z204_ => walk_at "pt"
        case z205_ => (rw [hway]; rfl)
        case z206_ =>
        intro h9 tk9 F9 N9
        refine' St.asg F9 N9 ?z207_ ?z208_
        case z207_ => walk_at "pe"
        case z208_ =>
        intro h9 tk9 t9 F9 N9
        refine St.ifOC ?_
        refine' meth0 F9 N9 X' ?z209_ (mx _ _ _ _) (md _ _ _ _) (noM_R hR8 (by k_mem)) ?z210_ ?z211_ ?z212_ ?z213_ ?z214_
        case z209_ => walk_at "pe"
        case z210_ => k_is
        case z211_ => k_is
        case z212_ => k_is
        case z213_ => k_is
        case z214_ =>
        intro h9 tk9 F9 N9
        refine' avail_RL B' F9 X' T' rfl ?z216_ ?z217_ N9 (mx _ _ _ _) (uo _ _ _ _) hR8 hla8  ?z218_
        case z216_ => walk_at "hd9"
        case z217_ => walk_at "hu9"
        case z218_ =>
        intro o9 a9 t9 h9 tk9 R9 hp9 F9 N9
        refine' CmpR.use (x1 := .int _) F9 N9 ?z219_ (Cm.cast Cm.ne ?z220_) ?z221_
        case z219_ => (apply PE.ife; (· walk_at "pt"); (· walk_at "pe"); (· walk_at "pe"))
        case z220_ => (rw [bne_eq_false_iff_eq]; simp only [decide_eq_true_eq]; try rfl)
        case z221_ =>
        intro h9 tk9 F9 N9
        refine ⟨rfl, ?_⟩
        refine' meth0 F9 N9 X' ?z222_ (mx _ _ _ _) (md _ _ _ _) (noM_R R9 (by k_mem)) ?z223_ ?z224_ ?z225_ ?z226_ ?z227_
        case z222_ => walk_at "pe"
        case z223_ => k_is
        case z224_ => k_is
        case z225_ => k_is
        case z226_ => k_is
        case z227_ =>
        intro h9 tk9 F9 N9
        refine' pos_RL B' F9 X' T' rfl ?z229_ ?z230_ N9 (mx _ _ _ _) (uo _ _ _ _) R9 hp9  ?z231_
        case z229_ => walk_at "hd9"
        case z230_ => walk_at "hu9"
        case z231_ =>
        intro o9 a9 t9 h9 tk9 R9 hp9 F9 N9
        refine' CmpR.use (x1 := .int _) F9 N9 ?z232_ (Cm.cast Cm.ne ?z233_) ?z234_
        case z232_ => walk_at "pe"
        case z233_ => exact bne_self_eq_false _
        case z234_ =>
        intro h9 tk9 F9 N9
        refine IfR.noL ?_
        exact hE _ _ _ _ _ _ _ _ _ _ _ _ F9 N9 R9 hp9 hcb8 ⟨_, hl8⟩ ⟨_, hp8⟩ nat_ ncb rfl
      · skip
        refine' St.ifFl F9 N9 (PT.cast ?z235_ ?z236_) ?z237_
        case z235_ => walk_at "pt"
        case z236_ => (rw [hway]; rfl)
        case z237_ =>
        intro h9 tk9 F9 N9
        refine' St.ifFl F9 N9 (PT.cast ?z238_ ?z239_) ?z240_
        case z238_ => walk_at "pt"
        case z239_ => (rw [hway]; rfl)
        case z240_ =>
        intro h9 tk9 F9 N9
        refine' St.ifFl F9 N9 (PT.cast ?z241_ ?z242_) ?z243_
        case z241_ => walk_at "pt"
        case z242_ => (rw [hway]; rfl)
        case z243_ =>
        intro h9 tk9 F9 N9
        refine' St.ifTl F9 N9 (PT.cast ?z244_ ?z245_) ?z246_
        case z244_ => walk_at "pt"
        case z245_ => (rw [hway]; rfl)
        case z246_ =>
        intro h9 tk9 F9 N9
        obtain ⟨hcl9, hci9⟩ := hcb8 (by cases ccb with | true => rfl | false => (rw [hway] at hb5; cases hb5))
        subst hcl9
        subst hci9
        refine St.exp ?_
        refine' meth0 F9 N9 X' ?z247_ (mx _ _ _ _) (md _ _ _ _) (noM_R hR8 (by k_mem)) ?z248_ ?z249_ ?z250_ ?z251_ ?z252_
        case z247_ => walk_at "pe"
        case z248_ => k_is
        case z249_ => k_is
        case z250_ => k_is
        case z251_ => k_is
        case z252_ =>
        intro h9 tk9 F9 N9
        refine' back_RL0 B' F9 X' T' rfl ?z254_ ?z255_ N9 (mx _ _ _ _) (uo _ _ _ _) hR8 hla8  ?z256_
        case z254_ => walk_at "hd9"
        case z255_ => walk_at "hu9"
        case z256_ =>
        intro o9 a9 h9 tk9 R9 hp9 F9 N9
        refine St.exp ?_
        refine' meth0 F9 N9 X' ?z257_ (mx _ _ _ _) (md _ _ _ _) (noM_R R9 (by k_mem)) ?z258_ ?z259_ ?z260_ ?z261_ ?z262_
        case z257_ => walk_at "pe"
        case z258_ => k_is
        case z259_ => k_is
        case z260_ => k_is
        case z261_ => k_is
        case z262_ =>
        intro h9 tk9 F9 N9
        refine' back_RL1 B' F9 X' T' rfl ?z264_ ?z265_ N9 (mx _ _ _ _) (uo _ _ _ _) R9 hp9  ?z266_
        case z264_ => walk_at "hd9"
        case z265_ => walk_at "hu9"
        case z266_ =>
        intro o9 a9 h9 tk9 R9 hp9 F9 N9
        refine' St.asg2 F9 N9 ?z267_ ?z268_ ?z269_
        case z267_ => walk_at "pe"
        case z268_ => walk_at "pe"
        case z269_ =>
        intro h9 tk9 ta9 tb9 F9 N9
        refine wpAny_execs_nil ?_
        exact hE _ _ _ _ _ _ _ _ _ _ false _ F9 N9 R9 hp9 (fun h => (nomatch h)) ⟨_, hl8⟩ ⟨_, hp8⟩ rfl rfl rfl
      · skip
        refine' St.ifFl F9 N9 (PT.cast ?z270_ ?z271_) ?z272_
        case z270_ => walk_at "pt"
        case z271_ => (rw [hway]; rfl)
        case z272_ =>
        intro h9 tk9 F9 N9
        refine' St.ifFl F9 N9 (PT.cast ?z273_ ?z274_) ?z275_
        case z273_ => walk_at "pt"
        case z274_ => (rw [hway]; rfl)
        case z275_ =>
        intro h9 tk9 F9 N9
        refine' St.ifFl F9 N9 (PT.cast ?z276_ ?z277_) ?z278_
        case z276_ => walk_at "pt"
        case z277_ => (rw [hway]; rfl)
        case z278_ =>
        intro h9 tk9 F9 N9
        refine' St.ifFl F9 N9 (PT.cast ?z279_ ?z280_) ?z281_
        case z279_ => walk_at "pt"
        case z280_ => (rw [hway]; rfl)
        case z281_ =>
        intro h9 tk9 F9 N9
        have hw3 : 0 ≤ (n.fdiv 7).fmod ((oc.length : Int) + 3) ∧ (n.fdiv 7).fmod ((oc.length : Int) + 3) < (oc.length : Int) + 3 := ⟨Int.fmod_nonneg_of_pos _ (by omega), Int.fmod_lt_of_pos _ (by omega)⟩
        refine St.asgI ?_
        refine' PE.run ?z282_ _ _ _ F9 N9 ?z283_
        case z282_ => walk_at "pe"
        case z283_ =>
        intro h9 tk9 tl9 F9 N9
        refine stC F9 N9 (u3 _ _ _ _) hp8 ?_ rfl
        intro h9 tk9 c9 F9 N9 hc9
        dsimp only [AV.v] at hc9
        generalize (n.fdiv 7).fmod ((oc.length : Int) + 3) - 1 = plc at hc9
        rcases (show plc < 0 ∨ (0 ≤ plc ∧ (oc.length : Int) < plc) ∨ (0 ≤ plc ∧ plc ≤ (oc.length : Int)) by omega) with hpl | hpl | hpl
        · skip
          refine' St.asg F9 N9 (PE.if1 (PT.cast ?z284_ (decide_eq_true hpl)) ?z285_) ?z286_
          case z284_ => walk_at "pt"
          case z285_ => walk_at "pe"
          case z286_ =>
          intro h9 tk9 td9 F9 N9
          refine St.ifC ?_
          refine' fun1I F9 X' (topRead_of T') ?z290_ ?z291_ ?z292_
          case z290_ => k_is
          case z291_ => k_is
          case z292_ =>
          refine' lam_any (gt := fun tb => Fn co cl' c9 tb) F9 N9 T' CDg rfl (ut _ _ _ _) hTr ?z293_ ?z294_
          case z293_ => (rcases hT8 with ⟨h, _⟩ | ⟨q1, q2, q3, q4, h, hx, h1, h2, h3⟩; (· exact .inl (by rw [h]; kn_among)); (· refine .inr ⟨q1, q2, q3, q4, (by rw [h]; kn_hit), mtl _ _ _ _ _ (hke _ (List.mem_append_left _ (by rw [hx]; exact .head _))), h1, h2⟩))
          case z294_ =>
          intro fl c6 oc6 vs6 t6 ctv6 ps6 h9 tk9 F9 N9 d61 d62 lt6 hps6
          refine ⟨X'.keeps F9.keep, ?_⟩
          have hxc : x < c6 := by
            rcases hps6 with ⟨_, _, h⟩ | ⟨_, h, _⟩
            · exact h _ (mx _ _ _ _)
            · rcases hT8 with ⟨hh, _⟩ | ⟨q1, q2, q3, q4, hh, hx, h1, h2, h3⟩
              · rw [hh] at h
                have h9 : none = some (Value.ref c6) := by rw [← h]; symm; kn_among
                cases h9
              · rw [hh] at h
                have h9 : some (Value.ref q1) = some (Value.ref c6) := Eq.trans (by kn_hit) h
                cases h9
                exact h3
          have hcd : dx < c6 := Nat.lt_trans q2 hxc
          have hfd : dx < fl := lt6 _ (md _ _ _ _)
          refine' refused_raise (news' := (lc, listOf vs.toArray ep) :: (432, tabObj ps6) :: own) (v := #[114, 97, 110, 103, 101, 99, 104, 101, 99, 107]) B' F9 X' T' rfl ?z298_ ?z299_ XB TB D' N9 (refuses_lam (.head _) (.tail _ (.head _)) d61 d62 ?z300_ (fun _ => BindsTo.of_eq rfl) ?z301_) ?z302_
          case z298_ => walk_at "hd9"
          case z299_ => walk_at "hu9"
          case z300_ => exact dltA hdp 1 rfl
          case z301_ =>
            intro L8 L7 g7 s7 Q7 E7 B7 F7 X7 N7 T7 RE7
            refine' meth1 F7 N7 X7 (PE.nmF (.tail _ (.tail _ (m1 _ _ _ _))) hi8 rfl) (PE.toI (PE.nmF (.tail _ (.tail _ (m3 _ _ _ _))) hc9 rfl)) (.tail _ (.tail _ (mx _ _ _ _))) (.tail _ (.tail _ (md _ _ _ _))) (noM_R hR8 (by k_mem)) ?z307_ ?z308_ ?z309_ ?z310_ ?z311_
            case z307_ => k_is
            case z308_ => k_is
            case z309_ => k_is
            case z310_ => k_is
            case z311_ =>
            intro h7 tk7 t7 F7 N7
            refine' setpos_B1 (g := fun o' => _ :: _ :: Fn o' _ _ _) B7 F7 X7 T7 rfl ?z312_ ?z313_ N7 (.tail _ (.tail _ (mx _ _ _ _))) (.tail (Nat.ne_of_gt hfd) (.tail (Nat.ne_of_gt hcd) (uo _ _ _ _))) hR8 hpl   ?z306_
            case z312_ => walk_at "hd9"
            case z313_ => walk_at "hu9"
            case z306_ =>
            intro G e7 de7 hsh7 k7 n7 tk7 tk8 h8 FG7 RE U7
            exact RE7 G e7 de7 hsh7 k7 n7 tk7 tk8 h8 FG7 (raisedSub RE (fun p hp => by
              rcases List.mem_cons.mp hp with rfl | hp
              · exact .head _
              · rcases List.mem_cons.mp hp with rfl | hp
                · exact .tail _ (.tail _ (.tail _ (mlc _ _ _ _)))
                · rcases List.mem_cons.mp hp with rfl | hp
                  · exact .tail _ (.tail _ (.tail _ (mtb _ _ _ _)))
                  · exact .tail _ (.tail _ (.tail _ (mtl _ _ _ _ p (hkt p hp)))))) U7
          case z302_ =>
          intro g7 h9 tk9 tv7 T7 F9 N9 _ _ _ _
          refine' CmpR.use (x1 := .bytes [114, 97, 110, 103, 101, 99, 104, 101, 99, 107]) (q := false) F9 N9 ?z319_ (Cm.cast Cm.neB (decide_eq_false (fun h => h rfl))) ?z320_
          case z319_ => walk_at "pe"
          case z320_ =>
          intro h9 tk9 F9 N9
          refine IfR.no ?_
          refine' St.ifR F9 N9 (PT.cast ?z321_ ?z322_) ?z323_
          case z321_ => walk_at "pt"
          case z322_ => rfl
          case z323_ =>
          intro h9 tk9 F9 N9
          refine PE.ct.run _ _ _ F9 N9 fun h9 tk9 _ F9 N9 => ?_
          exact hRet _ _ _ _ _ _ T7 F9 N9 (.head _) (.tail _ (.head _)) (fun p hp => .tail _ (.tail _ hp))
        · skip
          refine' St.asg F9 N9 (PE.if2 (PT.cast ?z324_ (decide_eq_false (Int.not_lt.mpr hpl.1))) (PE.if1 (PT.cast ?z325_ (decide_eq_true hpl.2)) ?z326_)) ?z327_
          case z324_ => walk_at "pt"
          case z325_ => walk_at "pt"
          case z326_ => walk_at "pe"
          case z327_ =>
          intro h9 tk9 td9 F9 N9
          refine St.ifC ?_
          refine' fun1I F9 X' (topRead_of T') ?z330_ ?z331_ ?z332_
          case z330_ => k_is
          case z331_ => k_is
          case z332_ =>
          refine' lam_any (gt := fun tb => Fn co cl' c9 tb) F9 N9 T' CDg rfl (ut _ _ _ _) hTr ?z333_ ?z334_
          case z333_ => (rcases hT8 with ⟨h, _⟩ | ⟨q1, q2, q3, q4, h, hx, h1, h2, h3⟩; (· exact .inl (by rw [h]; kn_among)); (· refine .inr ⟨q1, q2, q3, q4, (by rw [h]; kn_hit), mtl _ _ _ _ _ (hke _ (List.mem_append_left _ (by rw [hx]; exact .head _))), h1, h2⟩))
          case z334_ =>
          intro fl c6 oc6 vs6 t6 ctv6 ps6 h9 tk9 F9 N9 d61 d62 lt6 hps6
          refine ⟨X'.keeps F9.keep, ?_⟩
          have hxc : x < c6 := by
            rcases hps6 with ⟨_, _, h⟩ | ⟨_, h, _⟩
            · exact h _ (mx _ _ _ _)
            · rcases hT8 with ⟨hh, _⟩ | ⟨q1, q2, q3, q4, hh, hx, h1, h2, h3⟩
              · rw [hh] at h
                have h9 : none = some (Value.ref c6) := by rw [← h]; symm; kn_among
                cases h9
              · rw [hh] at h
                have h9 : some (Value.ref q1) = some (Value.ref c6) := Eq.trans (by kn_hit) h
                cases h9
                exact h3
          have hcd : dx < c6 := Nat.lt_trans q2 hxc
          have hfd : dx < fl := lt6 _ (md _ _ _ _)
          refine' refused_raise (news' := (lc, listOf vs.toArray ep) :: (432, tabObj ps6) :: own) (v := #[105, 111, 101, 114, 114, 111, 114]) B' F9 X' T' rfl ?z338_ ?z339_ XB TB D' N9 (refuses_lam (.head _) (.tail _ (.head _)) d61 d62 ?z340_ (fun _ => BindsTo.of_eq rfl) ?z341_) ?z342_
          case z338_ => walk_at "hd9"
          case z339_ => walk_at "hu9"
          case z340_ => exact dltA hdp 1 rfl
          case z341_ =>
            intro L8 L7 g7 s7 Q7 E7 B7 F7 X7 N7 T7 RE7
            refine' meth1 F7 N7 X7 (PE.nmF (.tail _ (.tail _ (m1 _ _ _ _))) hi8 rfl) (PE.toI (PE.nmF (.tail _ (.tail _ (m3 _ _ _ _))) hc9 rfl)) (.tail _ (.tail _ (mx _ _ _ _))) (.tail _ (.tail _ (md _ _ _ _))) (noM_R hR8 (by k_mem)) ?z347_ ?z348_ ?z349_ ?z350_ ?z351_
            case z347_ => k_is
            case z348_ => k_is
            case z349_ => k_is
            case z350_ => k_is
            case z351_ =>
            intro h7 tk7 t7 F7 N7
            refine' setpos_B2 (g := fun o' => _ :: _ :: Fn o' _ _ _) B7 F7 X7 T7 rfl ?z352_ ?z353_ N7 (.tail _ (.tail _ (mx _ _ _ _))) (.tail (Nat.ne_of_gt hfd) (.tail (Nat.ne_of_gt hcd) (uo _ _ _ _))) hR8 hpl.2   ?z346_
            case z352_ => walk_at "hd9"
            case z353_ => walk_at "hu9"
            case z346_ =>
            intro G e7 de7 hsh7 k7 n7 tk7 tk8 h8 FG7 RE U7
            exact RE7 G e7 de7 hsh7 k7 n7 tk7 tk8 h8 FG7 (raisedSub RE (fun p hp => by
              rcases List.mem_cons.mp hp with rfl | hp
              · exact .head _
              · rcases List.mem_cons.mp hp with rfl | hp
                · exact .tail _ (.tail _ (.tail _ (mlc _ _ _ _)))
                · rcases List.mem_cons.mp hp with rfl | hp
                  · exact .tail _ (.tail _ (.tail _ (mtb _ _ _ _)))
                  · exact .tail _ (.tail _ (.tail _ (mtl _ _ _ _ p (hkt p hp)))))) U7
          case z342_ =>
          intro g7 h9 tk9 tv7 T7 F9 N9 _ _ _ _
          refine' CmpR.use (x1 := .bytes [105, 111, 101, 114, 114, 111, 114]) (q := false) F9 N9 ?z359_ (Cm.cast Cm.neB (decide_eq_false (fun h => h rfl))) ?z360_
          case z359_ => walk_at "pe"
          case z360_ =>
          intro h9 tk9 F9 N9
          refine IfR.no ?_
          refine' St.ifR F9 N9 (PT.cast ?z361_ ?z362_) ?z363_
          case z361_ => walk_at "pt"
          case z362_ => rfl
          case z363_ =>
          intro h9 tk9 F9 N9
          refine PE.ct.run _ _ _ F9 N9 fun h9 tk9 _ F9 N9 => ?_
          exact hRet _ _ _ _ _ _ T7 F9 N9 (.head _) (.tail _ (.head _)) (fun p hp => .tail _ (.tail _ hp))
        · skip
          refine' St.asg F9 N9 (PE.if2 (PT.cast ?z364_ (decide_eq_false (Int.not_lt.mpr hpl.1))) (PE.if2 (PT.cast ?z365_ (decide_eq_false (Int.not_lt.mpr hpl.2))) PE.cNone)) ?z366_
          case z364_ => walk_at "pt"
          case z365_ => walk_at "pt"
          case z366_ =>
          intro h9 tk9 td9 F9 N9
          refine St.ifC ?_
          refine' fun1I F9 X' (topRead_of T') ?z370_ ?z371_ ?z372_
          case z370_ => k_is
          case z371_ => k_is
          case z372_ =>
          refine' lam_any (gt := fun tb => Fn co cl' c9 tb) F9 N9 T' CDg rfl (ut _ _ _ _) hTr ?z373_ ?z374_
          case z373_ => (rcases hT8 with ⟨h, _⟩ | ⟨q1, q2, q3, q4, h, hx, h1, h2, h3⟩; (· exact .inl (by rw [h]; kn_among)); (· refine .inr ⟨q1, q2, q3, q4, (by rw [h]; kn_hit), mtl _ _ _ _ _ (hke _ (List.mem_append_left _ (by rw [hx]; exact .head _))), h1, h2⟩))
          case z374_ =>
          intro fl c6 oc6 vs6 t6 ctv6 ps6 h9 tk9 F9 N9 d61 d62 lt6 hps6
          refine ⟨X'.keeps F9.keep, ?_⟩
          have hxc : x < c6 := by
            rcases hps6 with ⟨_, _, h⟩ | ⟨_, h, _⟩
            · exact h _ (mx _ _ _ _)
            · rcases hT8 with ⟨hh, _⟩ | ⟨q1, q2, q3, q4, hh, hx, h1, h2, h3⟩
              · rw [hh] at h
                have h9 : none = some (Value.ref c6) := by rw [← h]; symm; kn_among
                cases h9
              · rw [hh] at h
                have h9 : some (Value.ref q1) = some (Value.ref c6) := Eq.trans (by kn_hit) h
                cases h9
                exact h3
          have hcd : dx < c6 := Nat.lt_trans q2 hxc
          have hfd : dx < fl := lt6 _ (md _ _ _ _)
          refine' refused_ok (P := fun (c : Obj × Int) => IsR w.params c.1 oc c.2 false false ∧ plc = c.2 - (if false = true then 1 else 0)) (news' := fun c => (c6, oc6) :: Fn c.1 cl' c9 (tabObj ps6)) B' F9 X' T' rfl ?z378_ ?z379_ N9 (accepts_lam (.head _) (.tail _ (.head _)) d61 d62 ?z380_ (fun _ => BindsTo.of_eq rfl) ?z381_) ?z382_
          case z378_ => walk_at "hd9"
          case z379_ => walk_at "hu9"
          case z380_ => exact dltA hdp 1 rfl
          case z381_ =>
            intro L8 L7 g7 s7 Q7 E7 B7 F7 X7 N7 T7 RE7
            refine' meth1 F7 N7 X7 (PE.nmF (.tail _ (.tail _ (m1 _ _ _ _))) hi8 rfl) (PE.toI (PE.nmF (.tail _ (.tail _ (m3 _ _ _ _))) hc9 rfl)) (.tail _ (.tail _ (mx _ _ _ _))) (.tail _ (.tail _ (md _ _ _ _))) (noM_R hR8 (by k_mem)) ?z386_ ?z387_ ?z388_ ?z389_ ?z390_
            case z386_ => k_is
            case z387_ => k_is
            case z388_ => k_is
            case z389_ => k_is
            case z390_ =>
            intro h7 tk7 t7 F7 N7
            refine' setpos_RL (g := fun o' => _ :: _ :: Fn o' _ _ _) B7 F7 X7 T7 rfl ?z391_ ?z392_ N7 (.tail _ (.tail _ (mx _ _ _ _))) (.tail (Nat.ne_of_gt hfd) (.tail (Nat.ne_of_gt hcd) (uo _ _ _ _))) hR8 hla8 hpl.1 hpl.2  ?z383_
            case z391_ => walk_at "hd9"
            case z392_ => walk_at "hu9"
            case z383_ =>
            intro o7 a7 h7 tk7 R7 hp7 F7 N7
            exact RE7 (o7, a7) h7 tk7 ⟨R7, hp7⟩ F7 (newsTail N7)
          case z382_ =>
          intro c7 h9 tk9 hP7 F9 N9
          refine' CmpR.use (x1 := .val .none) (t := default) (q := false) F9 N9 ?z384_ Cm.neNN ?z385_
          case z384_ => walk_at "pe"
          case z385_ =>
          intro h9 tk9 F9 N9
          refine IfR.no ?_
          refine' St.ifN F9 N9 (PT.cast ?z398_ ?z399_) ?z400_
          case z398_ => walk_at "pt"
          case z399_ => rfl
          case z400_ =>
          intro h9 tk9 F9 N9
          refine' St.asg2 F9 N9 ?z401_ ?z402_ ?z403_
          case z401_ => walk_at "pe"
          case z402_ => walk_at "pe"
          case z403_ =>
          intro h9 tk9 ta9 tb9 F9 N9
          refine wpAny_execs_nil ?_
          rw [hFn] at N9
          refine hEG _ _ _ c7.1 _ _ c7.2 plc false false false _ ps6 [(c6, oc6)] _ F9 N9 ?_ ?_ ?_ ?_ hP7.1 hP7.2 (fun h => (nomatch h)) ⟨_, hl8⟩ ⟨_, hc9⟩ rfl rfl rfl
          · intro p hp
            rcases mem7 hp with h | h
            · exact .tail _ (List.mem_append_left tl h)
            · rcases List.mem_cons.mp h with rfl | h
              · exact .head _
              · exact .tail _ (.tail _ (.tail _ (.tail _ (.tail _ (.tail _ (.tail _ (.tail _ (hkt p h))))))))
          · intro p hp
            exact .tail _ (.tail _ (.tail _ (.tail _ (.tail _ (.tail _ (.tail _ (.tail _ (htl2 p hp))))))))
          · intro p hp b hb
            have hb2 : b = c6 ∨ b ∈ (x :: dx :: (L' + 1 + 1 + 1) :: (L' + 1 + 1) :: (L' + 1) :: lc :: 432 :: List.map (fun x => x.fst) (cext ++ own)) := by
              simp only [List.map_cons, List.map_append, List.cons_append, List.nil_append, List.mem_cons, List.mem_append] at hb ⊢
              rcases hb with h | h | h | h | h | h | h | h | h <;> simp [h]
            rcases hb2 with hb2 | hb2
            · rw [hb2]
              rcases hps6 with ⟨_, _, h⟩ | ⟨_, h, hm⟩
              · exact Nat.ne_of_lt (h p (mtl _ _ _ _ p (htl2 p hp)))
              · rcases hT8 with ⟨hh, _⟩ | ⟨w1, w2, w3, w4, hh, hx, h1, h2, h3⟩
                · rw [hh] at h
                  have h9 : none = some (Value.ref c6) := by rw [← h]; symm; kn_among
                  cases h9
                · rw [hh] at h
                  have h9 : some (Value.ref w1) = some (Value.ref c6) := Eq.trans (by kn_hit) h
                  cases h9
                  exact hoff9 p hp _ (by rw [hx]; simp)
            · exact hoff9 p hp b hb2
          · rcases hps6 with ⟨hp6, h, _⟩ | ⟨hp6, h, hm⟩
            · rcases hT8 with ⟨hh, _⟩ | ⟨q1, q2, q3, q4, hh, hx, h1, h2, h3⟩
              · rw [hp6, hh]
                exact .inr ⟨c6, oc6, vs6, t6, rfl, rfl, d61, d62, hxc⟩
              · rw [hh] at h
                have h9 : none = some (Value.ref q1) := by rw [← h]; kn_hit
                cases h9
            · rcases hT8 with ⟨hh, _⟩ | ⟨q1, q2, q3, q4, hh, hx, h1, h2, h3⟩
              · rw [hh] at h
                have h9 : none = some (Value.ref c6) := by rw [← h]; symm; kn_among
                cases h9
              · rw [hp6, hh]
                rw [hh] at h
                have h9 : some (Value.ref q1) = some (Value.ref c6) := Eq.trans (by kn_hit) h
                cases h9
                exact .inr ⟨_, oc6, vs6, t6, rfl, rfl, d61, d62, h3⟩
  case done =>
    clear wF N1 e1 e2 e3 R1
    intro c u h9 tk9 hp F8 N8
    obtain ⟨co, cat, chl, cib, cla, cta, ccb, ci, cl', cp, cps, cext⟩ := c
    have hq8 : _ ∧ _ ∧ _ ∧ _ ∧ _ ∧ _ ∧ _ := hp
    have hR8 := hq8.1
    have hla8 := hq8.2.1
    have hcb8 := hq8.2.2.1
    have hi8 := hq8.2.2.2.1
    have hT8 := hq8.2.2.2.2.2.2
    have hq9 := hq8.2.2.2.2.1
    have hp9 := hq8.2.2.2.2.2.1
    clear hq8 hp
    obtain ⟨vl8, hl8⟩ := hq9
    obtain ⟨vp8, hp8⟩ := hp9
    dsimp only at hR8 hla8 hcb8 hi8 hl8 hp8 hT8 F8 N8
    have hR9 := hR8
    (refine IsR.elim hR9 ?_; clear hR9; intro j0 j1 j2 j3 j4 j5 j6 j7 j8 j9 u0 u1 u5 u8 u9 la' num' nm' pl' e9z; subst e9z; intro hpl' h0' hat' hoc' hib' hl1' hl2' hl3')
    have hla0 : 0 ≤ cla ∧ cla ≤ oc.length := by
      rw [hla8]
      cases cib with
      | true => have := hl1' (hib' rfl); simp only [if_true]; omega
      | false => simp only [Bool.false_eq_true, if_false]; omega
    rw [← hla8] at hpl'
    subst hpl'
    have hext := TabOk.ext_lt hT8
    obtain ⟨tl, htl⟩ : ∃ tl, tl = cext ++ own := ⟨_, rfl⟩
    have hkt : ∀ p ∈ own, p ∈ tl := fun p hp => by rw [htl]; exact List.mem_append_right _ hp
    have hofft : OwnOff tl [lc, 432, L' + 1, L' + 1 + 1, L' + 1 + 1 + 1, dx, x] := by
      rw [htl]
      refine offApp (offHigh hext ?_) ?_
      · (repeat' (first | exact List.forall_mem_nil _ | refine List.forall_mem_cons.mpr ⟨?_, ?_⟩))
        all_goals first | exact Nat.le_refl _ | exact Nat.le_of_lt (abv (by assumption) (by k_mem)) | exact Nat.le_of_lt (by assumption) | omega
      · refine offC (fun p hp => hoff p hp _ (.head _)) (offC (fun p hp => hoff p hp _ (.tail _ (.head _))) (offLow l2 ?_))
        (repeat' (first | exact List.forall_mem_nil _ | refine List.forall_mem_cons.mpr ⟨?_, ?_⟩))
        all_goals first | exact Nat.le_refl _ | exact Nat.le_of_lt (abv (by assumption) (by k_mem)) | omega
    rw [← htl] at N8
    change News g' L' h9 _ at N8
    change Fr g' L' h9 _ at F8
    try k_fold
    k_steps
    unfold Stop
    k_dflt (refine' refused_raise (news' := (lc, listOf vs.toArray ep) :: (432, tabObj _) :: own) (v := #[105, 111, 101, 114, 114, 111, 114]) ?B ?F ?X ?T ?hk ?hd ?hu ?XB ?TB ?D ?N ?H ?R; (case N => k_asm); (case F => k_asm); (case B => k_asm); (case X => k_asm); (case T => k_asm); (case hk => first | exact rfl | assumption); (case hd => walk_at "hd9"); (case hu => walk_at "hu9"); (case XB => assumption); (case TB => assumption); (case D => assumption))
    case H =>
      intro g8 L8 m8 s8 Q8 E8 B8 F8 X8 N8 T8 RE8
      k_steps
      all_goals (try (exfalso; omega))
      (rename RaisedE _ _ _ _ _ _ _ => N9); (rename Heap.UpToSlots _ _ => U9); (rename Fr g8 L8 _ m8 => F9)
      exact RE8 _ _ _ _ _ _ _ _ _ F9 (raisedSub N9 (fun p hp => by
        rcases List.mem_cons.mp hp with rfl | hp
        · exact .head _
        · rcases List.mem_cons.mp hp with rfl | hp
          · k_mem
          · rcases List.mem_cons.mp hp with rfl | hp
            · k_mem
            · have hp' := hkt p hp
              k_ownIn)) U9
    case R =>
      intro h₀' h' tk tkv KT F' N' B' X' T' D'
      k_steps
      all_goals ((rename KtsTurn (List.filterMap _ outer) _ _ => T9); (rename Fr _ L _ m => F9); (rename Below A₀ _ _ _ => B9); (rename KtsDicts (List.filterMap _ outer) _ => D9); (rename Top _ _ _ _ _ _ => P9); (rename Frag.In _ _ => X9); (rename News _ L _ _ => N9); (try dsimp only); (try simp only [decide_true]); exact ret _ _ _ _ T9 F9 (by first | exact N9 | exact newsOf N9 (fun p hp => by rcases List.mem_cons.mp hp with rfl | hp; { k_mem }; { rcases List.mem_cons.mp hp with rfl | hp; { k_mem }; { have hp' := hkt p hp; k_ownIn } })) B9 X9 P9 D9)
end
section -- DBase
variable {w : World} {A₀ : Around} {base h₀ : Heap} {outer : List Env} {L a : Addr} {m : Str → Option Value} {news : List (Addr × Obj)} {g : Obj → List (Addr × Obj)} {s : Shared} {Q E : Value → Shared → Prop} {dp un : Nat} {gd : Option (List Code)} {cn : Str} {cs : Scope} {ccd : Value} {cl : List (Str × Addr)} {loose : List Str} {mean : ExcName → Option Value} {mg mb : Str → Option Value}
noncomputable abbrev ftEs (P : Params) (k0 k1 k2 k3 k4 : Tok) (dk mn si so se : Value) : List DictEntry :=
  [⟨PyData.keyHash P (Str.ofString "disk"), .str (Str.ofString "disk") k0, dk⟩,
   ⟨PyData.keyHash P (Str.ofString "many"), .str (Str.ofString "many") k1, mn⟩,
   ⟨PyData.keyHash P (Str.ofString "std_in"), .str (Str.ofString "std_in") k2, si⟩,
   ⟨PyData.keyHash P (Str.ofString "std_out"), .str (Str.ofString "std_out") k3, so⟩,
   ⟨PyData.keyHash P (Str.ofString "std_err"), .str (Str.ofString "std_err") k4, se⟩]
noncomputable def IsFT (P : Params) (o : Obj) (d : Addr) (n : Int) : Prop := ∃ si so se, Dk P o (fsT d n si so se)
noncomputable abbrev dfEs (P : Params) (k0 k1 k2 k3 k4 k5 k6 k7 k8 k9 : Tok) (num nm cr cw op pl la ib dk at_ : Value) : List DictEntry :=
  [⟨PyData.keyHash P (Str.ofString "number"), .str (Str.ofString "number") k0, num⟩,
   ⟨PyData.keyHash P (Str.ofString "name"), .str (Str.ofString "name") k1, nm⟩,
   ⟨PyData.keyHash P (Str.ofString "can_read"), .str (Str.ofString "can_read") k2, cr⟩,
   ⟨PyData.keyHash P (Str.ofString "can_write"), .str (Str.ofString "can_write") k3, cw⟩,
   ⟨PyData.keyHash P (Str.ofString "is_open"), .str (Str.ofString "is_open") k4, op⟩,
   ⟨PyData.keyHash P (Str.ofString "place"), .str (Str.ofString "place") k5, pl⟩,
   ⟨PyData.keyHash P (Str.ofString "last"), .str (Str.ofString "last") k6, la⟩,
   ⟨PyData.keyHash P (Str.ofString "is_back"), .str (Str.ofString "is_back") k7, ib⟩,
   ⟨PyData.keyHash P (Str.ofString "disk"), .str (Str.ofString "disk") k8, dk⟩,
   ⟨PyData.keyHash P (Str.ofString "at"), .str (Str.ofString "at") k9, at_⟩]
noncomputable def IsD (P : Params) (o : Obj) (d : Addr) (cr op : Bool) (at_ : Int) : Prop := ∃ num pl la, Dk P o (fsD num cr op pl la d at_)
theorem D_df {P : Params} {o : Obj} {num pl at_ : Int} {cr op : Bool} {la : AV} {d : Addr} (h : Dk P o (fsD num cr op pl la d at_)) {R : Prop} (k : ∀ k0 k1 k2 k3 k4 k5 k6 k7 k8 k9 t0 t1 t5 t6 t9, o = dictOf (dfEs P k0 k1 k2 k3 k4 k5 k6 k7 k8 k9 (.int num t0) (.bytes #[97] t1) (.bool cr) (.bool true) (.bool op)
      (.int pl t5) (la.v t6) (.bool false) (.ref d) (.int at_ t9)) 10 → R) : R := by
  obtain ⟨es, h, e⟩ := h
  revert e
  refine DkE.elim h fun t0 k0 es0 h0 => ?_
  refine DkE.elim h0 fun t1 k1 es1 h1 => ?_
  refine DkE.elim h1 fun t2 k2 es2 h2 => ?_
  refine DkE.elim h2 fun t3 k3 es3 h3 => ?_
  refine DkE.elim h3 fun t4 k4 es4 h4 => ?_
  refine DkE.elim h4 fun t5 k5 es5 h5 => ?_
  refine DkE.elim h5 fun t6 k6 es6 h6 => ?_
  refine DkE.elim h6 fun t7 k7 es7 h7 => ?_
  refine DkE.elim h7 fun t8 k8 es8 h8 => ?_
  refine DkE.elim h8 fun t9 k9 es9 h9 => ?_
  refine DkE.elim0 h9 ?_
  exact fun e => k k0 k1 k2 k3 k4 k5 k6 k7 k8 k9 t0 t1 t5 t6 t9 e
theorem IsD.elim {P : Params} {o : Obj} {d : Addr} {cr op : Bool} {at_ : Int} {G : Prop} (h : IsD P o d cr op at_)
    (k : ∀ k0 k1 k2 k3 k4 k5 k6 k7 k8 k9 t0 t1 t5 t9 la num pl,
      o = dictOf (dfEs P k0 k1 k2 k3 k4 k5 k6 k7 k8 k9 (.int num t0) (.bytes #[97] t1) (.bool cr) (.bool true) (.bool op)
        (.int pl t5) la (.bool false) (.ref d) (.int at_ t9)) 10 → G) : G := by
  obtain ⟨num, pl, la, h⟩ := h
  exact D_df h fun k0 k1 k2 k3 k4 k5 k6 k7 k8 k9 t0 t1 t5 t6 t9 e => k k0 k1 k2 k3 k4 k5 k6 k7 k8 k9 t0 t1 t5 t9 _ num pl e
theorem IsFT.elim {P : Params} {o : Obj} {d : Addr} {n : Int} {G : Prop} (h : IsFT P o d n)
    (k : ∀ k0 k1 k2 k3 k4 t si so se, o = dictOf (ftEs P k0 k1 k2 k3 k4 (.ref d) (.int n t) si so se) 5 → G) : G := by
  obtain ⟨si, so, se, es, h, e⟩ := h
  revert e
  refine DkE.elim h fun t0 k0 es0 h0 => ?_
  refine DkE.elim h0 fun t1 k1 es1 h1 => ?_
  refine DkE.elim h1 fun t2 k2 es2 h2 => ?_
  refine DkE.elim h2 fun t3 k3 es3 h3 => ?_
  refine DkE.elim h3 fun t4 k4 es4 h4 => ?_
  refine DkE.elim0 h4 ?_
  exact fun e => k k0 k1 k2 k3 k4 t1 _ _ _ e
theorem ft_new {d : Addr}
  (B : Below A₀ base outer h₀) (F : Fr h₀ L s.heap m) (X : (hd.heap_1 w.params).In h₀) (T : Top topProg loose mean mg mb h₀) (hk : cs.kind = .function) (hdp : dp < 550) (hun : un < 500)
  (N : News h₀ L s.heap news)
  (ret : ∀ tx tdx o h' tk, IsFT w.params o d 3 → Fr h₀ L h' m → News h₀ L h' ((tx, instObj 400 tdx) :: (tdx, o) :: news) → (∀ q ∈ news, q.1 < tdx) → @LT.lt Nat _ tdx tx → Q (.ref tx) { s with heap := h', toks := tk }) :
  wpAny (model rw_on0267_01.row.prog w) (ktrTop dp un gd cn cs L a ccd cl outer) (call (.ref 400) [.ref d]) Q E s := by
  exact make_S (by kernel_rfl) (by kernel_rfl) (by kernel_rfl) (fun x dx g hx hU => mi_initT (d := d) (hx := hx) (hU := hU)) B X T hk (Nat.lt_of_lt_of_le (Nat.succ_lt_succ hdp) (by decide)) F N (.cons 0 .nil) fun x dx o h' tk D F' N' l1 l2 => ret x dx o h' tk ⟨_, _, _, D⟩ F' N' l1 l2
theorem split6 {h₀ h : Heap} {L x dx d : Addr} {ox o od : Obj} {news : List (Addr × Obj)} {g : Obj → List (Addr × Obj)} {G : Obj → Obj → List (Addr × Obj)}
    (N : News h₀ L h news) (hx : (x, ox) ∈ news) (U : UpdF dx o news g) (V : ∀ o', UpdF d od (g o') (G o')) (hne : x ≠ dx) (hxd : x ≠ d) (hdd : dx ≠ d) :
    ∃ own, OwnOff own [x, dx, d] ∧ News h₀ L h ((x, ox) :: (dx, o) :: (d, od) :: own) ∧ ∀ o' od' p, p ∈ G o' od' → p ∈ (x, ox) :: (dx, o') :: (d, od') :: own := by
  have hdm : (d, od) ∈ news := (updF_again U).1 ▸ upd_mem (V o)
  obtain ⟨own, hoff, N1, sub⟩ := own3 N hx (upd_mem U) hdm
  refine ⟨own, hoff, N1, fun o' od' p hp => ?_⟩
  rcases updF_of (V o') hp with rfl | ⟨h1, h2⟩
  · exact .tail _ (.tail _ (.head _))
  · rcases updF_of U h1 with rfl | ⟨h3, h4⟩
    · exact .tail _ (.head _)
    · exact sub o' od' p h3 h4 h2
theorem split5 {h₀ h : Heap} {L x dx d : Addr} {ox o od : Obj} {news : List (Addr × Obj)} {g : Obj → List (Addr × Obj)} {G : Obj → Obj → List (Addr × Obj)}
    (N : News h₀ L h news) (hx : (x, ox) ∈ news) (U : UpdF dx o news g) (V : ∀ o', UpdF d od (g o') (G o')) (hne : x ≠ dx) (hxd : x ≠ d) (hdd : dx ≠ d) :
    ∃ own, OwnOff own [x, dx, d] ∧ News h₀ L h ((x, ox) :: (dx, o) :: (d, od) :: own) ∧ ∀ h' o' od', News h₀ L h' ((x, ox) :: (dx, o') :: (d, od') :: own) → News h₀ L h' (G o' od') := by
  obtain ⟨own, hoff, N1, sub⟩ := split6 N hx U V hne hxd hdd
  exact ⟨own, hoff, N1, fun h' o' od' N' p hp => N' p (sub o' od' p hp)⟩
theorem KVs.two {a b : AV} {k k' : List UInt8} {kvs : List (List UInt8 × Value)} (h : KVs [(k, a), (k', b)] kvs) : ∃ t u, kvs = [(k, a.v t), (k', b.v u)] := by
  cases h with
  | cons t h => cases h with
    | cons u h => cases h; exact ⟨t, u, rfl⟩
theorem dsk_of {w : World} {od : Obj} {now : List UInt8} {t1 : Tok} {v : Value} (h : od.IsDictOf (bytesKind rw_on0267_01.row.prog w) [([97], Value.bytes now.toArray t1), ([98], v)]) : DkB w od (dsA now v) := ⟨_, .cons t1 (.cons 0 .nil), h⟩
theorem dsk_to {w : World} {od : Obj} {now : List UInt8} {v : Value} (h : DkB w od (dsA now v)) : ∃ t', od.IsDictOf (bytesKind rw_on0267_01.row.prog w) [([97], Value.bytes now.toArray t'), ([98], v)] := by
  obtain ⟨kvs, hk, hd⟩ := h
  obtain ⟨t, u, rfl⟩ := hk.two
  exact ⟨t, hd⟩
theorem useD {x dx d C : Addr} {G : Obj → Obj → List (Addr × Obj)} {o od : Obj} {fs fs' : FS} {ds ds' : DS} {f : Addr} {args : List AV} {vs : List Value} {v : AV}
  (B : Below A₀ base outer h₀) (F : Fr h₀ L s.heap m) (X : (hd.heap_1 w.params).In h₀) (T : Top topProg loose mean mg mb h₀) (hk : cs.kind = .function) (hdp : dp < n)
  (N : News h₀ L s.heap news) (hx : (x, instObj C dx) ∈ news) (U : UpdF dx o news g) (V : ∀ o', UpdF d od (g o') (G o')) (nxdx : @Ne Nat x dx) (nxd : @Ne Nat x d) (ndd : @Ne Nat dx d) (lo : (d == sysModules) = false)
  (hD : Dk w.params o fs) (hB : DkB w od ds) (mc : ∀ own ap, MC w (LgD w x dx d C od own ap) n f args (fs, ds, true) v (fs', ds', true)) (ha : ArgsV args vs)
  (ret : ∀ o' od' t h' tk, Dk w.params o' fs' → DkB w od' ds' → Fr h₀ L h' m → News h₀ L h' (G o' od') → Q (v.v t) { s with heap := h', toks := tk }) :
  wpAny (model rw_on0267_01.row.prog w) (ktrTop dp un gd cn cs L a ccd cl outer) (call (.ref f) (.ref x :: vs)) Q E s := by
  obtain ⟨own, hoff, N1, back⟩ := split5 N hx U V nxdx nxd ndd
  refine (mc own ⟨nxdx, nxd, ndd, hoff, lo⟩).run B X T hk hdp F N1 ⟨o, od, hD, hB, (fun z => nomatch z), rfl⟩ ha fun s' t nw' h F' N' led' => ?_
  obtain ⟨o', od', h', hb', _, rfl⟩ := led'
  rw [h.to]
  exact ret o' od' t _ _ h' hb' F' (back _ _ _ N')
end
section -- ConD1
variable {w : World} {A₀ : Around} {base h₀ : Heap} {outer : List Env} {L a : Addr} {m : Str → Option Value} {news : List (Addr × Obj)} {g : Obj → List (Addr × Obj)} {s : Shared} {Q E : Value → Shared → Prop} {dp un : Nat} {gd : Option (List Code)} {cn : Str} {cs : Scope} {ccd : Value} {cl : List (Str × Addr)} {loose : List Str} {mean : ExcName → Option Value} {mg mb : Str → Option Value}
theorem kw_27 : True := by
  w_top off
  k_with "eval Dict" => (k_here; (with_reducible refine PyProof.Rows.Dict_made (knd := bytesKind _ _) (by with_unfolding_all assumption) (by with_unfolding_all rfl) (by with_unfolding_all rfl) (List.cons_ne_nil _ _) (by with_unfolding_all decide) ?_); intro _)
  k_with "Exists" => (k_here; (refine made_bytes [(_, _), (_, _)] (by k_asm) (by first | k_asm | exact News.nil) (Top.nolimit (by k_asm)) ⟨bk_is _ _ _ _, rfl, bk_is _ _ _ _, rfl, trivial⟩ (of_decide_eq_true (by rfl)) ?_); intro h' o' F' N' lq1 lo' hd'; (try k_lt lq1))
  k_with "subscriptTail" => (k_here; (with_reducible show wpAny _ _ (subscriptTail _ _ (Value.ref _) (Value.bytes _ _)) _ _ _); kda_here; k_dflt (refine kda_item (knd := bytesKind _ _) (by k_asm) (by k_mem) (by k_asm) (bk_is _ _ _ _) (by rfl) ?_))
  k_with "compareOp In bytes ref" => (k_here; kda_here; k_dflt (first
      | refine kda_in (knd := bytesKind _ _) (by k_asm) (by k_mem) (by k_asm) (by k_asm) (bk_is _ _ _ _) true (by rfl) ?_
      | refine kda_in (knd := bytesKind _ _) (by k_asm) (by k_mem) (by k_asm) (by k_asm) (bk_is _ _ _ _) false (by rfl) ?_))
  k_with "compareOp NotIn bytes ref" => (k_here; kda_here; k_dflt (first
      | refine kdg_notin (knd := bytesKind _ _) (by k_asm) (by k_mem) (by k_asm) (by k_asm) (bk_is _ _ _ _) true (by rfl) ?_
      | refine kdg_notin (knd := bytesKind _ _) (by k_asm) (by k_mem) (by k_asm) (by k_asm) (bk_is _ _ _ _) false (by rfl) ?_); (try dsimp only [Bool.not_true, Bool.not_false]))
  k_with "setItem ref bytes" => (k_here; kda_here; k_dflt (refine' kda_set (knd := bytesKind _ _) ?F ?N ?U ?d (bk_is _ _ _ _) ?z ?_; (case F => k_asm); (case N => k_asm); (case U => k_updF); (case d => k_asm); (case z => kob_size)); intro h' o' F' N' hd'; (try kob_lit); (try dsimp only at N'))
  k_with "getMethod ref" => (k_here; kda_here; k_dflt (first
      | ((with_reducible show wpAny _ _ (getMethod (Value.ref _) (Str.ofString "get") _) _ _ _); refine kdg_method (knd := bytesKind _ _) (by k_asm) (by k_mem) (by k_asm) ?_)
      | ((with_reducible show wpAny _ _ (getMethod (Value.ref _) (Str.ofString "pop") _) _ _ _); refine kob_method (knd := bytesKind _ _) PySem.F.slot_dict_pop PySem.F.type_dict_pop (by k_asm) (by k_mem) (by k_asm) ?_)))
  k_with "call builtin:dict.get" => (k_here; kda_here; k_dflt (first
      | refine kdg_get2 (knd := bytesKind _ _) (by k_asm) (by k_mem) (by k_asm) (by k_asm) (bk_is _ _ _ _) (some _) (by rfl) ?_
      | refine kdg_get2 (knd := bytesKind _ _) (by k_asm) (by k_mem) (by k_asm) (by k_asm) (bk_is _ _ _ _) none (by rfl) ?_); (try dsimp only [Option.getD]))
  k_with "call builtin:dict.pop" => (k_here; kda_here; k_dflt (refine' kob_pop (knd := bytesKind _ _) (more := []) ?F ?N ?U ?d (bk_is _ _ _ _) (.inl rfl) (by rfl) (PySem.F.args_dict_pop_2 _ _) ?l ?z ?_; (case F => k_asm); (case N => k_asm); (case U => k_updF); (case d => k_asm); (case l => rfl); (case z => kob_size)); intro h' o' F' N' hd'; (try kob_lit); (try dsimp only at N'))
  k_with "call type:int" => (k_here; (with_reducible show wpAny _ _ (call (Value.type "int") [Value.bool false]) _ _ _); refine int_f ?_; (try simp only [Int.sub_zero]))
  k_with "call type:bytes" => (k_here; (with_reducible show wpAny _ _ (call (Value.type "bytes") [Value.int _ _]) _ _ _); (refine bytes_zero (by first | omega | (rw [if_neg (by omega)])) ?_); intro _ _)
  trivial
theorem write_D {x dx : Addr}
  {d : Addr} {o od : Obj} {now : List UInt8} {cr : Bool} {at_ : Int} {t1 t2 : Tok} {G : Obj → Obj → List (Addr × Obj)} {sm : List UInt8} {tm : Tok}
  (B : Below A₀ base outer h₀) (F : Fr h₀ L s.heap m) (X : (hd.heap_1 w.params).In h₀) (T : Top topProg loose mean mg mb h₀) (hk : cs.kind = .function) (hdp : dp < 590) (hun : un < 900)
  (N : News h₀ L s.heap news) (hx : (x, instObj 280 dx) ∈ news) (U : UpdF dx o news g) (V : ∀ o', UpdF d od (g o') (G o')) (ho : IsD w.params o d cr true at_) (hod : od.IsDictOf (bytesKind rw_on0267_01.row.prog w) [([97], Value.bytes now.toArray t1), ([98], Value.bytes ([] : List UInt8).toArray t2)]) (lo : (d == sysModules) = false) (h0 : 0 ≤ at_) (h1 : at_ ≤ (now.length : Int)) (hz : now.length ≤ 1000) (nxdx : @Ne Nat x dx) (nxd : @Ne Nat x d) (ndd : @Ne Nat dx d) (hs : sm.length ≤ 10)
  (ret : ∀ o' od' t' h' tk, IsD w.params o' d cr true (at_ + sm.length) → od'.IsDictOf (bytesKind rw_on0267_01.row.prog w) [([97], Value.bytes (List.take at_.toNat now ++ sm ++ List.drop (at_ + sm.length).toNat now).toArray t'), ([98], Value.bytes ([] : List UInt8).toArray t2)] → Fr h₀ L h' m → News h₀ L h' (G o' od') → Q (.none) { s with heap := h', toks := tk }) :
  wpAny (model rw_on0267_01.row.prog w) (ktrTop dp un gd cn cs L a ccd cl outer) (call (.ref 132) [.ref x, .bytes sm.toArray tm]) Q E s := by
  obtain ⟨num, pl, la, hD⟩ := ho
  refine useD B F X T hk (Nat.lt_of_lt_of_le hdp (by decide)) N hx U V nxdx nxd ndd lo hD (dsk_of hod) (fun own ap => md_write (ap := ap) h0 h1 hz hs) (.cons tm .nil) fun o' od' t h' tk D DB F' N' => ?_
  obtain ⟨t', hd'⟩ := dsk_to DB
  exact ret o' od' t' h' tk (by rw [← sb_eq at_]; exact ⟨_, _, _, D⟩) (by rw [← sb_eq at_, ← List.append_nil (List.take (sb at_).toNat now)]; exact hd') F' N'

theorem setpos_D {x dx : Addr}
  {d : Addr} {o od : Obj} {now : List UInt8} {cr : Bool} {at_ : Int} {t1 t2 : Tok} {G : Obj → Obj → List (Addr × Obj)} {place : Int} {tp : Tok}
  (B : Below A₀ base outer h₀) (F : Fr h₀ L s.heap m) (X : (hd.heap_1 w.params).In h₀) (T : Top topProg loose mean mg mb h₀) (hk : cs.kind = .function) (hdp : dp < 590) (hun : un < 900)
  (N : News h₀ L s.heap news) (hx : (x, instObj 280 dx) ∈ news) (U : UpdF dx o news g) (V : ∀ o', UpdF d od (g o') (G o')) (ho : IsD w.params o d cr true at_) (hod : od.IsDictOf (bytesKind rw_on0267_01.row.prog w) [([97], Value.bytes now.toArray t1), ([98], Value.bytes ([] : List UInt8).toArray t2)]) (lo : (d == sysModules) = false) (h0 : 0 ≤ at_) (h1 : at_ ≤ (now.length : Int)) (hz : now.length ≤ 1000) (nxdx : @Ne Nat x dx) (nxd : @Ne Nat x d) (ndd : @Ne Nat dx d) (hp0 : 0 ≤ place) (hp1 : place ≤ (now.length : Int))
  (ret : ∀ o' od' t' h' tk, IsD w.params o' d cr true (place) → od'.IsDictOf (bytesKind rw_on0267_01.row.prog w) [([97], Value.bytes (now).toArray t'), ([98], Value.bytes ([] : List UInt8).toArray t2)] → Fr h₀ L h' m → News h₀ L h' (G o' od') → Q (.none) { s with heap := h', toks := tk }) :
  wpAny (model rw_on0267_01.row.prog w) (ktrTop dp un gd cn cs L a ccd cl outer) (call (.ref 277) [.ref x, .int place tp]) Q E s := by
  obtain ⟨num, pl, la, hD⟩ := ho
  refine useD B F X T hk (Nat.lt_of_lt_of_le hdp (by decide)) N hx U V nxdx nxd ndd lo hD (dsk_of hod) (fun own ap => md_set (ap := ap) hp0 hp1 hz) (.cons tp .nil) fun o' od' t h' tk D DB F' N' => ?_
  obtain ⟨t', hd'⟩ := dsk_to DB
  exact ret o' od' t' h' tk ⟨_, _, _, D⟩ hd' F' N'

theorem pos_D {x dx : Addr}
  {d : Addr} {o od : Obj} {now : List UInt8} {cr : Bool} {at_ : Int} {t1 t2 : Tok} {G : Obj → Obj → List (Addr × Obj)}
  (B : Below A₀ base outer h₀) (F : Fr h₀ L s.heap m) (X : (hd.heap_1 w.params).In h₀) (T : Top topProg loose mean mg mb h₀) (hk : cs.kind = .function) (hdp : dp < 590) (hun : un < 900)
  (N : News h₀ L s.heap news) (hx : (x, instObj 280 dx) ∈ news) (U : UpdF dx o news g) (V : ∀ o', UpdF d od (g o') (G o')) (ho : IsD w.params o d cr true at_) (hod : od.IsDictOf (bytesKind rw_on0267_01.row.prog w) [([97], Value.bytes now.toArray t1), ([98], Value.bytes ([] : List UInt8).toArray t2)]) (lo : (d == sysModules) = false) (h0 : 0 ≤ at_) (h1 : at_ ≤ (now.length : Int)) (hz : now.length ≤ 1000) (nxdx : @Ne Nat x dx) (nxd : @Ne Nat x d) (ndd : @Ne Nat dx d)
  (ret : ∀ o' od' t' ti h' tk, IsD w.params o' d cr true (at_) → od'.IsDictOf (bytesKind rw_on0267_01.row.prog w) [([97], Value.bytes (now).toArray t'), ([98], Value.bytes ([] : List UInt8).toArray t2)] → Fr h₀ L h' m → News h₀ L h' (G o' od') → Q (.int at_ ti) { s with heap := h', toks := tk }) :
  wpAny (model rw_on0267_01.row.prog w) (ktrTop dp un gd cn cs L a ccd cl outer) (call (.ref 270) [.ref x]) Q E s := by
  obtain ⟨num, pl, la, hD⟩ := ho
  refine useD B F X T hk (Nat.lt_of_lt_of_le hdp (by decide)) N hx U V nxdx nxd ndd lo hD (dsk_of hod) (fun own ap => md_pos (ap := ap)) .nil fun o' od' t h' tk D DB F' N' => ?_
  obtain ⟨t', hd'⟩ := dsk_to DB
  exact (by rw [sb_eq at_]; exact ret o' od' t' t h' tk ⟨_, _, _, D⟩ hd' F' N')

theorem close_D {x dx : Addr}
  {d : Addr} {o od : Obj} {now : List UInt8} {cr : Bool} {at_ : Int} {t1 t2 : Tok} {G : Obj → Obj → List (Addr × Obj)}
  (B : Below A₀ base outer h₀) (F : Fr h₀ L s.heap m) (X : (hd.heap_1 w.params).In h₀) (T : Top topProg loose mean mg mb h₀) (hk : cs.kind = .function) (hdp : dp < 590) (hun : un < 900)
  (N : News h₀ L s.heap news) (hx : (x, instObj 280 dx) ∈ news) (U : UpdF dx o news g) (V : ∀ o', UpdF d od (g o') (G o')) (ho : IsD w.params o d cr true at_) (hod : od.IsDictOf (bytesKind rw_on0267_01.row.prog w) [([97], Value.bytes now.toArray t1), ([98], Value.bytes ([] : List UInt8).toArray t2)]) (lo : (d == sysModules) = false) (h0 : 0 ≤ at_) (h1 : at_ ≤ (now.length : Int)) (hz : now.length ≤ 1000) (nxdx : @Ne Nat x dx) (nxd : @Ne Nat x d) (ndd : @Ne Nat dx d)
  (ret : ∀ o' od' t' h' tk, IsD w.params o' d cr false (at_) → od'.IsDictOf (bytesKind rw_on0267_01.row.prog w) [([97], Value.bytes (now).toArray t'), ([98], Value.bytes ([] : List UInt8).toArray t2)] → Fr h₀ L h' m → News h₀ L h' (G o' od') → Q (.none) { s with heap := h', toks := tk }) :
  wpAny (model rw_on0267_01.row.prog w) (ktrTop dp un gd cn cs L a ccd cl outer) (call (.ref 153) [.ref x]) Q E s := by
  obtain ⟨num, pl, la, hD⟩ := ho
  refine useD B F X T hk (Nat.lt_of_lt_of_le hdp (by decide)) N hx U V nxdx nxd ndd lo hD (dsk_of hod) (fun own ap => md_close (ap := ap)) .nil fun o' od' t h' tk D DB F' N' => ?_
  obtain ⟨t', hd'⟩ := dsk_to DB
  exact ret o' od' t' h' tk ⟨_, _, _, D⟩ hd' F' N'

theorem write_DB {x dx : Addr}
  {d : Addr} {o : Obj} {cr : Bool} {at_ : Int} {sm : Array UInt8} {tm : Tok}
  (B : Below A₀ base outer h₀) (F : Fr h₀ L s.heap m) (X : (hd.heap_1 w.params).In h₀) (T : Top topProg loose mean mg mb h₀) (hk : cs.kind = .function) (hdp : dp < 590) (hun : un < 900)
  (N : News h₀ L s.heap news) (hx : (x, instObj 280 dx) ∈ news) (hdx : (dx, o) ∈ news) (ho : IsD w.params o d cr false at_)
  (ret : ∀ G e de hsh k n tk tk' h', Fr h₀ L G m → RaisedE base G (envX cn cs L a ccd cl :: outer) e de ((de, toldD hsh k n #[105, 111, 101, 114, 114, 111, 114] tk) :: news) h' → G.UpToSlots h' → E (.ref e) { s with heap := h', toks := tk' }) :
  wpAny (model rw_on0267_01.row.prog w) (ktrTop dp un gd cn cs L a ccd cl outer) (call (.ref 132) [.ref x, .bytes sm tm]) Q E s := by
  obtain ⟨num, pl, la, hD⟩ := ho
  exact useZ B F X T hk (Nat.lt_of_lt_of_le hdp (by decide)) N hx hdx hD (fun own ne hO => rd_write (ne := ne) (hO := hO)) (show ArgsV [.bytes sm.toList] [.bytes sm tm] from .cons tm .nil) ret

theorem write_RB {x dx : Addr}
  {o : Obj} {oc : List UInt8} {at_ : Int} {hl ib : Bool} {sm : Array UInt8} {tm : Tok}
  (B : Below A₀ base outer h₀) (F : Fr h₀ L s.heap m) (X : (hd.heap_1 w.params).In h₀) (T : Top topProg loose mean mg mb h₀) (hk : cs.kind = .function) (hdp : dp < 590) (hun : un < 900)
  (N : News h₀ L s.heap news) (hx : (x, instObj 226 dx) ∈ news) (hdx : (dx, o) ∈ news) (ho : IsR w.params o oc at_ hl ib)
  (ret : ∀ G e de hsh k n tk tk' h', Fr h₀ L G m → RaisedE base G (envX cn cs L a ccd cl :: outer) e de ((de, toldD hsh k n #[105, 110, 118, 97, 108, 105, 100, 97, 99, 99, 101, 115, 115] tk) :: news) h' → G.UpToSlots h' → E (.ref e) { s with heap := h', toks := tk' }) :
  wpAny (model rw_on0267_01.row.prog w) (ktrTop dp un gd cn cs L a ccd cl outer) (call (.ref 132) [.ref x, .bytes sm tm]) Q E s := by
  obtain ⟨num, nm, hD, h0, hat, hoc, hib, hl1⟩ := ho
  exact useZ B F X T hk (Nat.lt_of_lt_of_le hdp (by decide)) N hx hdx hD (fun own ne hO => rr_write (ne := ne) (hO := hO)) (show ArgsV [.bytes sm.toList] [.bytes sm tm] from .cons tm .nil) ret
end
section -- ConD2
variable {w : World} {A₀ : Around} {base h₀ : Heap} {outer : List Env} {L a : Addr} {m : Str → Option Value} {news : List (Addr × Obj)} {g : Obj → List (Addr × Obj)} {s : Shared} {Q E : Value → Shared → Prop} {dp un : Nat} {gd : Option (List Code)} {cn : Str} {cs : Scope} {ccd : Value} {cl : List (Str × Addr)} {loose : List Str} {mean : ExcName → Option Value} {mg mb : Str → Option Value}
theorem mkD_next9 {P : Params} : MOk (hd.heap_1 P) 280 (Str.ofString "next") 97 := ⟨cgD.hg, by kernel_rfl, by kernel_rfl, by kernel_rfl⟩
theorem mem_fl {a b c p : Addr × Obj} {pre own : List (Addr × Obj)} (hp : p ∈ a :: b :: c :: (own ++ pre)) : p ∈ pre ++ a :: b :: c :: own := by
  rcases List.mem_append.mp (show p ∈ (a :: b :: c :: own) ++ pre from hp) with h | h
  · exact List.mem_append_right _ h
  · exact List.mem_append_left _ h
theorem mem_lf {a b c p : Addr × Obj} {pre own : List (Addr × Obj)} (hp : p ∈ pre ++ a :: b :: c :: own) : p ∈ a :: b :: c :: (own ++ pre) := by
  rcases List.mem_append.mp hp with h | h
  · exact List.mem_append_right (a :: b :: c :: own) h
  · exact List.mem_append_left pre h
theorem MC.liftD {w : World} {x dx d C : Addr} {od0 : Obj} {N : Nat} {f : Addr} {args : List AV} {ω ω' : FS × DS × Bool} {y : AV} (mc : ∀ own ap, MC w (LgD w x dx d C od0 own ap) N f args ω y ω') (own : List (Addr × Obj)) (ap : Apt x dx d own) (ll : LL) :
    MC w (LgP (LgD w x dx d C od0 own ap)) N f args (ω, ll) y (ω', ll) := .mk fun {A₀ base h₀ outer L a m dp un gd cn cs ccd cl loose mean mg mb s R nw vs} B X T hk hdp F Nw led ha H => by
  obtain ⟨nw0, ⟨o, od, h, hd, hf, rfl⟩, L⟩ := led
  obtain ⟨pre, rfl, off, k⟩ := L.app
  refine (mc (own ++ pre) ⟨ap.xdx, ap.xd, ap.dxd, fun p hp b hb => ?_, ap.lo⟩).code B X T hk hdp F (fun p hp => Nw p (mem_fl hp)) ⟨o, od, h, hd, hf, rfl⟩ ha fun s' t nw' e F' N' ⟨o', od', h', hd', hf', e'⟩ => H s' t _ e F' (fun p hp => N' p (e' ▸ mem_lf hp)) ⟨_, ⟨o', od', h', hd', hf', rfl⟩, k _ rfl⟩
  rcases List.mem_append.mp hp with hp | hp
  · exact ap.off p hp b hb
  · exact off p hp b (show b ∈ [x, dx, d] ++ own.map (·.1) from List.mem_append_left _ hb)
noncomputable def DrΨ (num : Int) (d : Addr) (now : List UInt8) (u : Value) (fl : Bool) (at_ many : Int) (y : AV) (Ω : (FS × DS × Bool) × LL) : Prop :=
  y = .bytes ((now.drop at_.toNat).take many.toNat) ∧ ∃ pl la, Ω.1 = (fsD num true true pl la d (at_ + many), dsA now u, fl)
noncomputable abbrev drV (num : Int) (d : Addr) (now : List UInt8) (u : Value) (fl : Bool) (at_ : Int) (a : Addr) (pl : Int) (la : AV) (got : List UInt8) : (FS × DS × Bool) × LL := ((fsD num true true pl la d (at_ + got.length), dsA now u, fl), [.lst a (got.map oAV)])
theorem fy_readD {w : World} {x dx d : Addr} {od0 : Obj} {own : List (Addr × Obj)} {ap : Apt x dx d own} {num pl at_ many : Int} {la : AV} {now : List UInt8} {u : Value} {fl : Bool} (h0 : 0 ≤ at_) (hz : now.length ≤ 1000) (hm0 : 0 ≤ many) (hm1 : at_ + many ≤ (now.length : Int)) :
    FY w (LgP (LgD w x dx d 280 od0 own ap)) 680 118 [.val (.ref x), .int many] ((fsD num true true pl la d at_, dsA now u, fl), []) (DrΨ num d now u fl at_ many) := by
  refine' FY.of (fun hk bs hdp9 => ?zb) ?z6 ?z7 ?z8 (bind2 (n1 := Str.ofString "self") (n2 := Str.ofString "many") (by intro _ _; kernel_rfl) ?zl ?zm) ?z2 ?z3 ?z4 ?z5
  case z6 => exact rfl
  case z7 => exact rfl
  case z8 => exact rfl
  case zl => exact rfl
  case zm => exact rfl
  case z2 => exact rfl
  case z3 => exact rfl
  case z4 => exact rfl
  case z5 => decide
  refine SX.asgY (EY.lst EXs.nil) fun x1 Ω1 h1 => ?_
  obtain ⟨a, rfl, rfl⟩ := h1
  refine SX.whl (WX.ind (fun _ : Int × AV × List UInt8 => frL a x (Str.ofString "many") many) (fun s => drV num d now u fl at_ a s.1 s.2.1 s.2.2) (fun s => (many - s.2.2.length).toNat) (fun s => s.2.2 = (now.drop at_.toNat).take s.2.2.length ∧ (s.2.2.length : Int) ≤ many) (pl, la, []) ⟨rfl, hm0⟩ (.cons rfl (.cons rfl (.cons rfl .nil))) (by rw [show drV num d now u fl at_ a pl la [] = ((fsD num true true pl la d (at_ + 0), dsA now u, fl), [.lst a []]) from rfl, Int.add_zero]) ?_)
  rintro ⟨pl1, la1, got⟩ ⟨hg, hm⟩ ih
  dsimp only at hg hm ih ⊢
  have hml : (got.map oAV).length = got.length := List.length_map _
  by_cases hlt : (got.length : Int) < many
  · have hend : at_ + got.length < (now.length : Int) := by omega
    have e1 : now.getD (at_ + got.length + 1 - 1).toNat 0 = now.getD (at_ + (got.length : Int)).toNat 0 := by rw [Int.add_sub_cancel]
    have el : ((got ++ [now.getD (at_ + got.length + 1 - 1).toNat 0]).length) = got.length + 1 := by rw [List.length_append, List.length_singleton]
    exact WX.t (TX.cast (TX.cmp (EX.lenL (EX.nm rfl) (.head _) (by omega)) (EX.nm rfl) Cm.lt) (decide_eq_true (by omega)))
      (SX.ofN (SX.asg (EX.meth0 rfl mkD_next9 (MC.liftD (fun own ap => md_next (ap := ap) (by omega) hend hz) _ _ _) (Nat.lt_of_lt_of_le hdp9 (Nat.le_of_ble_eq_true rfl))) (SX.ifF (TX.cmp (EX.nm rfl) EX.cn Cm.isIN) SX.nil (SX.exp (EX.app rfl (.head _) (EX.nm rfl) .head (by omega)) SX.nil)))
        (ih (pl1 + 1, _, got ++ [now.getD (at_ + got.length + 1 - 1).toNat 0]) _ _ ⟨by dsimp only; rw [el, e1]; exact take_more h0 hg hend, by dsimp only; rw [el]; omega⟩ (by dsimp only; rw [el]; omega) (by exact .cons rfl (.cons rfl (.cons rfl .nil))) (by
          dsimp only [drV]
          rw [el, ← om_snoc, show at_ + ((got.length + 1 : Nat) : Int) = at_ + got.length + 1 by omega])))
  · have e : (got.length : Int) = many := by omega
    exact WX.f (TX.cast (TX.cmp (EX.lenL (EX.nm rfl) (.head _) (by omega)) (EX.nm rfl) Cm.lt) (decide_eq_false (by omega)))
      (SX.ofR (SX.ret (EX.bytesL (EX.nm rfl) (.head _) (by omega))) fun _ => ⟨congrArg AV.bytes (by rw [hg, show got.length = many.toNat by omega]), pl1, la1, by rw [← e]⟩)
theorem read_D {x dx : Addr}
  {d : Addr} {o od : Obj} {now : List UInt8} {at_ : Int} {t1 t2 : Tok} {G : Obj → Obj → List (Addr × Obj)} {many : Int} {tm : Tok}
  (B : Below A₀ base outer h₀) (F : Fr h₀ L s.heap m) (X : (hd.heap_1 w.params).In h₀) (T : Top topProg loose mean mg mb h₀) (hk : cs.kind = .function) (hdp : dp < 590) (hun : un < 900)
  (N : News h₀ L s.heap news) (hx : (x, instObj 280 dx) ∈ news) (U : UpdF dx o news g) (V : ∀ o', UpdF d od (g o') (G o')) (ho : IsD w.params o d true true at_) (hod : od.IsDictOf (bytesKind rw_on0267_01.row.prog w) [([97], Value.bytes now.toArray t1), ([98], Value.bytes ([] : List UInt8).toArray t2)]) (lo : (d == sysModules) = false) (h0 : 0 ≤ at_) (h1 : at_ ≤ (now.length : Int)) (hz : now.length ≤ 1000) (nxdx : @Ne Nat x dx) (nxd : @Ne Nat x d) (ndd : @Ne Nat dx d) (hm0 : 0 ≤ many) (hm1 : at_ + many ≤ (now.length : Int))
  (ret : ∀ o' od' t' ti h' tk, IsD w.params o' d true true (at_ + many) → od'.IsDictOf (bytesKind rw_on0267_01.row.prog w) [([97], Value.bytes (now).toArray t'), ([98], Value.bytes ([] : List UInt8).toArray t2)] → Fr h₀ L h' m → News h₀ L h' (G o' od') → Q (.bytes ((now.drop at_.toNat).take many.toNat).toArray ti) { s with heap := h', toks := tk }) :
  wpAny (model rw_on0267_01.row.prog w) (ktrTop dp un gd cn cs L a ccd cl outer) (call (.ref 118) [.ref x, .int many tm]) Q E s := by
  obtain ⟨num, pl, la, hD⟩ := ho
  obtain ⟨own, hoff, N1, back⟩ := split5 N hx U V nxdx nxd ndd
  refine wpAny_call ((fy_readD (od0 := od) (ap := ⟨nxdx, nxd, ndd, hoff, lo⟩) (fl := true) h0 hz hm0 hm1).code B X T hk (Nat.lt_of_lt_of_le hdp (by decide)) F N1 ⟨_, ⟨o, od, hD, dsk_of hod, (fun z => nomatch z), rfl⟩, .nil⟩ (.cons (a := .val (.ref x)) default (.cons (a := .int many) tm .nil)) fun s' t v Ω nw' k h F' N' led' => ?_)
  obtain ⟨ω, ll⟩ := Ω
  obtain ⟨rfl, pl', la', rfl⟩ := k
  obtain ⟨nw0, ⟨o', od', h', hb', _, rfl⟩, L1⟩ := led'
  obtain ⟨t', hd'⟩ := dsk_to hb'
  rw [h.to]
  exact ret o' od' t' t _ _ ⟨_, _, _, h'⟩ hd' F' (back _ _ _ fun p hp => N' p (L1.all p hp))
end
section -- HOP
theorem mkT_standard {P : Params} : MOk (hd.heap_1 P) 400 (Str.ofString "standard") 357 := ⟨cgT.hg, by kernel_rfl, by kernel_rfl, by kernel_rfl⟩
theorem MK.ofD {w : World} {x dx d : Addr} {od0 : Obj} {own : List (Addr × Obj)} {ap : Apt x dx d own} {n N : Nat} {args : List AV} {ft fs : FS} {ds : DS} {fl : Bool}
    (mc : ∀ x dx own od0 ap, MC w (LgD w x dx d 280 od0 own ap) n 242 args ([], ds, false) (.val .none) (fs, ds, false)) (hN : Nat.ble (N + 1) n = true) : MK w (LgD w x dx d 400 od0 own ap) N 280 args (ft, ds, fl) fs :=
  .mk fun {A₀ base h₀ outer L a m dp un gd cn cs ccd cl loose mean mg mb s Q E nw vs} B X T hk hdp F Nw led ha H => by
    obtain ⟨o, od, h1, h2, h3, rfl⟩ := led
    refine wpAny_call (make_K F Nw (X.keeps F.keep) (C := 280) (fI := 242) (by kernel_rfl) (by kernel_rfl) (by kernel_rfl) fun x' dx' g1 F1 N1 l1 l2 => ?_)
    have nx : ∀ q ∈ (x, instObj 400 dx) :: (dx, o) :: (d, od) :: own, q.1 ≠ x' := fun q hq => Nat.ne_of_lt (Nat.lt_trans (l1 q hq) l2)
    have nd : ∀ q ∈ (x, instObj 400 dx) :: (dx, o) :: (d, od) :: own, q.1 ≠ dx' := fun q hq => Nat.ne_of_lt (l1 q hq)
    have ap' : Apt x' dx' d ((x, instObj 400 dx) :: (dx, o) :: own) := ⟨Nat.ne_of_gt l2, Ne.symm (nx _ (.tail _ (.tail _ (.head _)))), Ne.symm (nd _ (.tail _ (.tail _ (.head _)))), fun p hp b hb => by
      have hp' : p ∈ (x, instObj 400 dx) :: (dx, o) :: (d, od) :: own := by
        rcases List.mem_cons.mp hp with rfl | hp
        · exact .head _
        · rcases List.mem_cons.mp hp with rfl | hp
          · exact .tail _ (.head _)
          · exact .tail _ (.tail _ (.tail _ hp))
      rcases List.mem_cons.mp hb with rfl | hb
      · exact nx p hp'
      rcases List.mem_cons.mp hb with rfl | hb
      · exact nd p hp'
      rw [List.mem_singleton.mp hb]
      rcases List.mem_cons.mp hp with rfl | hp
      · exact ap.xd
      · rcases List.mem_cons.mp hp with rfl | hp
        · exact ap.dxd
        · exact ap.off p hp d (.tail _ (.tail _ (.head _))), ap.lo⟩
    refine (mc x' dx' _ od ap').code B X T hk (Nat.lt_of_lt_of_le (Nat.succ_lt_succ hdp) (Nat.le_of_ble_eq_true hN)) F1 (nw := (x', instObj 280 dx') :: (dx', emptyDict) :: (d, od) :: (x, instObj 400 dx) :: (dx, o) :: own) (fun p hp => N1 p ?_) ⟨emptyDict, od, ⟨[], .nil, rfl⟩, h2, fun _ => rfl, rfl⟩ ha fun s' t nw' hS F' N' led' => ?_
    · rcases List.mem_cons.mp hp with rfl | hp
      · exact .head _
      rcases List.mem_cons.mp hp with rfl | hp
      · exact .tail _ (.head _)
      rcases List.mem_cons.mp hp with rfl | hp
      · exact .tail _ (.tail _ (.tail _ (.tail _ (.head _))))
      rcases List.mem_cons.mp hp with rfl | hp
      · exact .tail _ (.tail _ (.head _))
      rcases List.mem_cons.mp hp with rfl | hp
      · exact .tail _ (.tail _ (.tail _ (.head _)))
      · exact .tail _ (.tail _ (.tail _ (.tail _ (.tail _ hp))))
    obtain ⟨o', od', h', hb', he, rfl⟩ := led'
    obtain rfl := he rfl
    refine ⟨rfl, ?_⟩
    dsimp only
    refine H s' _ ((x', instObj 280 dx') :: (dx', o') :: (x, instObj 400 dx) :: (dx, o) :: (d, od') :: own) (Same.trans (s1 := { s with heap := g1 }) ⟨rfl, rfl, rfl⟩ hS) F' (fun p hp => N' p ?_) ⟨x', dx', o', _, rfl, rfl, h', ⟨o, od', h1, h2, h3, rfl⟩, l1, l2⟩
    rcases List.mem_cons.mp hp with rfl | hp
    · exact .head _
    rcases List.mem_cons.mp hp with rfl | hp
    · exact .tail _ (.head _)
    rcases List.mem_cons.mp hp with rfl | hp
    · exact .tail _ (.tail _ (.tail _ (.head _)))
    rcases List.mem_cons.mp hp with rfl | hp
    · exact .tail _ (.tail _ (.tail _ (.tail _ (.head _))))
    rcases List.mem_cons.mp hp with rfl | hp
    · exact .tail _ (.tail _ (.head _))
    · exact .tail _ (.tail _ (.tail _ (.tail _ (.tail _ hp))))
theorem kw_28 : True := by
  k_with "sz" => first | omega | decide
  k_with "cm" => first | exact Cm.eqB | exact Cm.notNN | exact Cm.isNN
  k_with "bt" => first | with_reducible rfl | decide | rfl
  trivial
section
variable {w : World} {x dx d : Addr} {od0 : Obj} {own : List (Addr × Obj)} {ap : Apt x dx d own} {num n : Int} {oc : List UInt8} {cr cw : Bool} {v : Value} {ds : DS} {fl : Bool} {si so se : AV}
section
theorem kw_29 : True := by
  k_with "mok" => with_reducible first | exact mkD_begin
  trivial
theorem mi_beginD : MC w (LgD w x dx d 280 od0 own ap) 695 76 [.int num, .bytes [97], .val (.bool cr), .val (.bool cw)] ([], ds, fl) (.val .none) (fs8 num [97] cr cw, ds, fl) := by
  refine' MC.of (l0 := [(Str.ofString "can_write", .val (.bool cw)), (Str.ofString "can_read", .val (.bool cr)), (Str.ofString "name", .bytes [97]), (Str.ofString "number", .int num), (Str.ofString "self", .val (.ref x))]) (fun hk bs hdp9 => ?b) (.inr ⟨rfl, rfl⟩) rfl rfl rfl (fun s vs h => ?bd) rfl rfl rfl (by decide)
  case bd =>
    obtain ⟨t1, vs1, e1, h1⟩ := h.inv
    obtain ⟨t2, vs2, e2, h2⟩ := h1.inv
    obtain ⟨t3, vs3, e3, h3⟩ := h2.inv
    obtain ⟨t4, vs4, e4, h4⟩ := h3.inv
    rw [e1, e2, e3, e4, h4.inv0]
    exact ⟨[(Str.ofString "self", .ref x), (Str.ofString "number", AV.v (.int num) t1), (Str.ofString "name", AV.v (.bytes [97]) t2), (Str.ofString "can_read", AV.v (.val (.bool cr)) t3), (Str.ofString "can_write", AV.v (.val (.bool cw)) t4)], BindsTo.of_eq (by kernel_rfl), .cons t4 (.cons t3 (.cons t2 (.cons t1 (.cons default .nil)))), locs rfl⟩
  case b => walk_at "sx"
theorem kw_30 : True := by
  k_with "mcs" => exact mi_beginD (ap := ap)
  k_with "ex" => ((with_reducible show EX _ _ _ (Expr.Subscript _ (Expr.Name _ _) _) _ _); exact EX.dsub (dskD w x dx d 280 od0 own ap) (by walk_at "ex") (by walk_at "ex") rfl)
  trivial
theorem mi_initD1 (hz : oc.length ≤ 1000) : MC w (LgD w x dx d 280 od0 own ap) 690 242 [.int num, .bytes [97], .val (.ref d), .val (.bool cr), .val (.bool true)] ([], dsA oc v, fl) (.val .none) (fsD num cr true 0 (.val .none) d oc.length, dsA oc v, fl) := by
  refine' MC.of (l0 := [(Str.ofString "is_appended", .val (.bool true)), (Str.ofString "can_read", .val (.bool cr)), (Str.ofString "disk", .val (.ref d)), (Str.ofString "name", .bytes [97]), (Str.ofString "number", .int num), (Str.ofString "self", .val (.ref x))]) (fun hk bs hdp9 => ?b) (.inr ⟨rfl, rfl⟩) rfl rfl rfl (fun s vs h => ?bd) rfl rfl rfl (by decide)
  case bd =>
    obtain ⟨t1, vs1, e1, h1⟩ := h.inv
    obtain ⟨t2, vs2, e2, h2⟩ := h1.inv
    obtain ⟨t3, vs3, e3, h3⟩ := h2.inv
    obtain ⟨t4, vs4, e4, h4⟩ := h3.inv
    obtain ⟨t5, vs5, e5, h5⟩ := h4.inv
    rw [e1, e2, e3, e4, e5, h5.inv0]
    exact ⟨[(Str.ofString "self", .ref x), (Str.ofString "number", AV.v (.int num) t1), (Str.ofString "name", AV.v (.bytes [97]) t2), (Str.ofString "disk", AV.v (.val (.ref d)) t3), (Str.ofString "can_read", AV.v (.val (.bool cr)) t4), (Str.ofString "is_appended", AV.v (.val (.bool true)) t5)], BindsTo.of_eq (by kernel_rfl), .cons t5 (.cons t4 (.cons t3 (.cons t2 (.cons t1 (.cons default .nil))))), locs rfl⟩
  case b => walk_at "sx"
theorem mi_initD0 (hz : oc.length ≤ 1000) : MC w (LgD w x dx d 280 od0 own ap) 690 242 [.int num, .bytes [97], .val (.ref d), .val (.bool cr), .val (.bool false)] ([], dsA oc v, fl) (.val .none) (fsD num cr true 0 (.val .none) d 0, dsA oc v, fl) := by
  refine' MC.of (l0 := [(Str.ofString "is_appended", .val (.bool false)), (Str.ofString "can_read", .val (.bool cr)), (Str.ofString "disk", .val (.ref d)), (Str.ofString "name", .bytes [97]), (Str.ofString "number", .int num), (Str.ofString "self", .val (.ref x))]) (fun hk bs hdp9 => ?b) (.inr ⟨rfl, rfl⟩) rfl rfl rfl (fun s vs h => ?bd) rfl rfl rfl (by decide)
  case bd =>
    obtain ⟨t1, vs1, e1, h1⟩ := h.inv
    obtain ⟨t2, vs2, e2, h2⟩ := h1.inv
    obtain ⟨t3, vs3, e3, h3⟩ := h2.inv
    obtain ⟨t4, vs4, e4, h4⟩ := h3.inv
    obtain ⟨t5, vs5, e5, h5⟩ := h4.inv
    rw [e1, e2, e3, e4, e5, h5.inv0]
    exact ⟨[(Str.ofString "self", .ref x), (Str.ofString "number", AV.v (.int num) t1), (Str.ofString "name", AV.v (.bytes [97]) t2), (Str.ofString "disk", AV.v (.val (.ref d)) t3), (Str.ofString "can_read", AV.v (.val (.bool cr)) t4), (Str.ofString "is_appended", AV.v (.val (.bool false)) t5)], BindsTo.of_eq (by kernel_rfl), .cons t5 (.cons t4 (.cons t3 (.cons t2 (.cons t1 (.cons default .nil))))), locs rfl⟩
  case b => walk_at "sx"
end
theorem kw_31 : True := by
  k_with "mok" => with_reducible first | exact mkT_new_number | exact mkT_standard
  trivial
theorem mt_number : MC w (LgD w x dx d 400 od0 own ap) 695 350 [] (fsT d n si so se, ds, fl) (.int (n + 1)) (fsT d (n + 1) si so se, ds, fl) := by
  walk_at "mcofR0"
theorem mt_dev_a {ω : FS × DS × Bool} : FC w (LgD w x dx d 400 od0 own ap) 690 329 [.bytes [97]] ω (.bytes [97]) ω := by
  refine' FC.of1 (Str.ofString "name") (fun hk bs hdp9 => ?b) rfl rfl rfl (by intro _; kernel_rfl) rfl rfl rfl rfl (by decide)
  exact SX.ret (EX.if2 (TX.cast (TX.cmp (EX.slj (EX.nm rfl) EX.ci (by decide) (by decide)) EX.cb Cm.eqB) (by decide)) (EX.nm rfl))
theorem kw_32 : True := by
  k_with "mc" => first | exact EX.methN rfl (by walk_at "mok") (by walk_at "exs") (by walk_at "mcs") (by walk_at "dp9") | exact EX.meth0 rfl (by walk_at "mok") (mt_number (ap := ap)) (by walk_at "dp9")
  k_with "exf" => exact EX.fun1 (by kernel_rfl) (by kernel_rfl) (by walk_at "ex") (by first | exact mt_dev_a (ap := ap) | exact mt_dev_n (ap := ap) | exact mt_dev_b (ap := ap) | exact mt_dev_c (ap := ap)) (by walk_at "dp9")
  k_with "ex" => first
      | ((with_reducible show EX _ _ _ (Expr.Subscript (Expr.Attribute _ _ _) _ _) _ _); exact EX.dsub (dskD w x dx d 400 od0 own ap) (by walk_at "ex") (by walk_at "ex") rfl)
      | ((with_reducible show EX _ _ _ (Expr.Compare _ _ _ _) _ _); first | exact EX.cmpIs (q1 := true) (by walk_at "ex") (by walk_at "ex") (by walk_at "cm") (by decide) | exact EX.cmpIs (q1 := false) (by walk_at "ex") (by walk_at "ex") (by walk_at "cm") (by decide))
  k_with "tx" => first
      | ((with_reducible show TX _ _ _ (Expr.Compare _ [CmpOp.NotIn] [Expr.Attribute _ _ _] _) _ _); exact TX.dnotin (dskD w x dx d 400 od0 own ap) (by walk_at "ex") (by walk_at "ex"))
      | ((with_reducible show TX _ _ _ (Expr.Compare _ [CmpOp.In] [Expr.Attribute _ _ _] _) _ _); exact TX.din (dskD w x dx d 400 od0 own ap) (by walk_at "ex") (by walk_at "ex"))
      | ((with_reducible show TX _ _ _ (Expr.Compare _ [CmpOp.NotIn] [Expr.Name _ _] _) _ _); exact TX.notinT (by walk_at "ex") (EX.glob (by walk_at "fa")) (by walk_at "fb") (by (repeat' (first | exact trivial | refine ⟨⟨_, _, rfl⟩, ?_⟩))) (by rfl))
  k_with "dst" => exact SX.dset (dskD w x dx d 400 od0 own ap) (by walk_at "ex") (by walk_at "ex") (by walk_at "ex") (by walk_at "sx") (by rfl)
  k_with "fa" => rfl
  k_with "fb" => rfl
  k_with "sm" => first
      | ((with_reducible show SM _ _ _ (Stmt.Assign [Expr.Name _ _] _ _ :: _) _); exact SM.asg (by walk_at "ex") (by walk_at "sm"))
      | ((with_reducible show SM _ _ _ (Stmt.Return _ _ :: _) _); exact SM.retMk (by kernel_rfl) (by kernel_rfl) (by walk_at "exs") (by walk_at "mk") (by walk_at "dp9"))
      | ((with_reducible show SM _ _ _ (Stmt.If _ _ _ _ :: _) _); first | exact SM.ifF (TX.cast (by walk_at "tx") (by walk_at "bt")) (by walk_at "sm") | exact SM.ifM (TX.cast (by walk_at "tx") (by walk_at "bt")) (by walk_at "sm") | exact SM.ifT (TX.cast (by walk_at "tx") (by walk_at "bt")) (by walk_at "sx") (by walk_at "sm"))
  k_with "mk" => first | exact MK.ofS (by kernel_rfl) (by kernel_rfl) (by kernel_rfl) (fun x dx g hx hU => mi_initR (hx := hx) (hU := hU)) (N := 600) rfl | exact MK.ofD (ap := ap) (N := 600) (fun x dx own od0 ap => mi_initD0 (ap := ap) (by first | omega | decide)) rfl | exact MK.ofD (ap := ap) (N := 600) (fun x dx own od0 ap => mi_initD1 (ap := ap) (by first | omega | decide)) rfl
  trivial
theorem mt_std_r : MC w (LgD w x dx d 400 od0 own ap) 690 357 [.bytes [97], .bytes [114]] (fsT d n si so se, ds, fl) (.val .none) (fsT d n si so se, ds, fl) := by
  refine' MC.of (l0 := [(Str.ofString "access", .bytes [114]), (Str.ofString "name", .bytes [97]), (Str.ofString "self", .val (.ref x))]) (fun hk bs hdp9 => ?b) (.inl rfl) rfl rfl rfl (fun s vs h => ?bd) rfl rfl rfl (by decide)
  case bd =>
    obtain ⟨t1, vs1, e1, h1⟩ := h.inv
    obtain ⟨t2, vs2, e2, h2⟩ := h1.inv
    rw [e1, e2, h2.inv0]
    exact ⟨[(Str.ofString "self", .ref x), (Str.ofString "name", AV.v (.bytes [97]) t1), (Str.ofString "access", AV.v (.bytes [114]) t2)], BindsTo.of_eq (by kernel_rfl), .cons t2 (.cons t1 (.cons default .nil)), locs rfl⟩
  case b => walk_at "sx"
theorem mt_std_rp : MC w (LgD w x dx d 400 od0 own ap) 690 357 [.bytes [97], .bytes [114, 43]] (fsT d n si so se, ds, fl) (.val .none) (fsT d n si so se, ds, fl) := by
  refine' MC.of (l0 := [(Str.ofString "access", .bytes [114, 43]), (Str.ofString "name", .bytes [97]), (Str.ofString "self", .val (.ref x))]) (fun hk bs hdp9 => ?b) (.inl rfl) rfl rfl rfl (fun s vs h => ?bd) rfl rfl rfl (by decide)
  case bd =>
    obtain ⟨t1, vs1, e1, h1⟩ := h.inv
    obtain ⟨t2, vs2, e2, h2⟩ := h1.inv
    rw [e1, e2, h2.inv0]
    exact ⟨[(Str.ofString "self", .ref x), (Str.ofString "name", AV.v (.bytes [97]) t1), (Str.ofString "access", AV.v (.bytes [114, 43]) t2)], BindsTo.of_eq (by kernel_rfl), .cons t2 (.cons t1 (.cons default .nil)), locs rfl⟩
  case b => walk_at "sx"
theorem mt_std_w : MC w (LgD w x dx d 400 od0 own ap) 690 357 [.bytes [97], .bytes [119]] (fsT d n si so se, ds, fl) (.val .none) (fsT d n si so se, ds, fl) := by
  refine' MC.of (l0 := [(Str.ofString "access", .bytes [119]), (Str.ofString "name", .bytes [97]), (Str.ofString "self", .val (.ref x))]) (fun hk bs hdp9 => ?b) (.inl rfl) rfl rfl rfl (fun s vs h => ?bd) rfl rfl rfl (by decide)
  case bd =>
    obtain ⟨t1, vs1, e1, h1⟩ := h.inv
    obtain ⟨t2, vs2, e2, h2⟩ := h1.inv
    rw [e1, e2, h2.inv0]
    exact ⟨[(Str.ofString "self", .ref x), (Str.ofString "name", AV.v (.bytes [97]) t1), (Str.ofString "access", AV.v (.bytes [119]) t2)], BindsTo.of_eq (by kernel_rfl), .cons t2 (.cons t1 (.cons default .nil)), locs rfl⟩
  case b => walk_at "sx"
theorem mt_std_wp : MC w (LgD w x dx d 400 od0 own ap) 690 357 [.bytes [97], .bytes [119, 43]] (fsT d n si so se, ds, fl) (.val .none) (fsT d n si so se, ds, fl) := by
  refine' MC.of (l0 := [(Str.ofString "access", .bytes [119, 43]), (Str.ofString "name", .bytes [97]), (Str.ofString "self", .val (.ref x))]) (fun hk bs hdp9 => ?b) (.inl rfl) rfl rfl rfl (fun s vs h => ?bd) rfl rfl rfl (by decide)
  case bd =>
    obtain ⟨t1, vs1, e1, h1⟩ := h.inv
    obtain ⟨t2, vs2, e2, h2⟩ := h1.inv
    rw [e1, e2, h2.inv0]
    exact ⟨[(Str.ofString "self", .ref x), (Str.ofString "name", AV.v (.bytes [97]) t1), (Str.ofString "access", AV.v (.bytes [119, 43]) t2)], BindsTo.of_eq (by kernel_rfl), .cons t2 (.cons t1 (.cons default .nil)), locs rfl⟩
  case b => walk_at "sx"
theorem mt_std_a : MC w (LgD w x dx d 400 od0 own ap) 690 357 [.bytes [97], .bytes [97]] (fsT d n si so se, ds, fl) (.val .none) (fsT d n si so se, ds, fl) := by
  refine' MC.of (l0 := [(Str.ofString "access", .bytes [97]), (Str.ofString "name", .bytes [97]), (Str.ofString "self", .val (.ref x))]) (fun hk bs hdp9 => ?b) (.inl rfl) rfl rfl rfl (fun s vs h => ?bd) rfl rfl rfl (by decide)
  case bd =>
    obtain ⟨t1, vs1, e1, h1⟩ := h.inv
    obtain ⟨t2, vs2, e2, h2⟩ := h1.inv
    rw [e1, e2, h2.inv0]
    exact ⟨[(Str.ofString "self", .ref x), (Str.ofString "name", AV.v (.bytes [97]) t1), (Str.ofString "access", AV.v (.bytes [97]) t2)], BindsTo.of_eq (by kernel_rfl), .cons t2 (.cons t1 (.cons default .nil)), locs rfl⟩
  case b => walk_at "sx"
theorem kw_33 : True := by
  k_with "mcs" => first | exact mt_std_r (ap := ap) | exact mt_std_rp (ap := ap) | exact mt_std_w (ap := ap) | exact mt_std_wp (ap := ap) | exact mt_std_a (ap := ap)
  trivial
theorem mt_open_r (hz : oc.length ≤ 1000) : MM w (LgD w x dx d 400 od0 own ap) 590 364 [.bytes [97], .bytes [114]] (fsT d n si so se, dsA oc v, fl) (New w (LgD w x dx d 400 od0 own ap) 226 (fsR (n + 1) [97] true 0 (.val .none) false oc 0) (fsT d (n + 1) si so se, dsA oc v, fl)) := by
  refine' MM.of2 (Str.ofString "told") (Str.ofString "access") (fun hk bs hdp9 => ?b) rfl rfl rfl (by intro _ _ _; kernel_rfl) rfl rfl rfl rfl (by decide)
  walk_at "sm"
theorem mt_open_rp (hz : oc.length ≤ 1000) : MM w (LgD w x dx d 400 od0 own ap) 590 364 [.bytes [97], .bytes [114, 43]] (fsT d n si so se, dsA oc v, fl) (New w (LgD w x dx d 400 od0 own ap) 280 (fsD (n + 1) true true 0 (.val .none) d 0) (fsT d (n + 1) si so se, dsA oc v, fl)) := by
  refine' MM.of2 (Str.ofString "told") (Str.ofString "access") (fun hk bs hdp9 => ?b) rfl rfl rfl (by intro _ _ _; kernel_rfl) rfl rfl rfl rfl (by decide)
  walk_at "sm"
theorem mt_open_w (hz : oc.length ≤ 1000) : MM w (LgD w x dx d 400 od0 own ap) 590 364 [.bytes [97], .bytes [119]] (fsT d n si so se, dsA oc v, fl) (New w (LgD w x dx d 400 od0 own ap) 280 (fsD (n + 1) false true 0 (.val .none) d 0) (fsT d (n + 1) si so se, dsA [] v, true)) := by
  refine' MM.of2 (Str.ofString "told") (Str.ofString "access") (fun hk bs hdp9 => ?b) rfl rfl rfl (by intro _ _ _; kernel_rfl) rfl rfl rfl rfl (by decide)
  walk_at "sm"
theorem mt_open_wp (hz : oc.length ≤ 1000) : MM w (LgD w x dx d 400 od0 own ap) 590 364 [.bytes [97], .bytes [119, 43]] (fsT d n si so se, dsA oc v, fl) (New w (LgD w x dx d 400 od0 own ap) 280 (fsD (n + 1) true true 0 (.val .none) d 0) (fsT d (n + 1) si so se, dsA [] v, true)) := by
  refine' MM.of2 (Str.ofString "told") (Str.ofString "access") (fun hk bs hdp9 => ?b) rfl rfl rfl (by intro _ _ _; kernel_rfl) rfl rfl rfl rfl (by decide)
  walk_at "sm"
theorem mt_open_a (hz : oc.length ≤ 1000) : MM w (LgD w x dx d 400 od0 own ap) 590 364 [.bytes [97], .bytes [97]] (fsT d n si so se, dsA oc v, fl) (New w (LgD w x dx d 400 od0 own ap) 280 (fsD (n + 1) false true 0 (.val .none) d oc.length) (fsT d (n + 1) si so se, dsA oc v, fl)) := by
  refine' MM.of2 (Str.ofString "told") (Str.ofString "access") (fun hk bs hdp9 => ?b) rfl rfl rfl (by intro _ _ _; kernel_rfl) rfl rfl rfl rfl (by decide)
  walk_at "sm"
end
end
section -- ConD3
variable {w : World} {A₀ : Around} {base h₀ : Heap} {outer : List Env} {L a : Addr} {m : Str → Option Value} {news : List (Addr × Obj)} {g : Obj → List (Addr × Obj)} {s : Shared} {Q E : Value → Shared → Prop} {dp un : Nat} {gd : Option (List Code)} {cn : Str} {cs : Scope} {ccd : Value} {cl : List (Str × Addr)} {loose : List Str} {mean : ExcName → Option Value} {mg mb : Str → Option Value}
theorem useM {w : World} {A₀ : Around} {base h₀ : Heap} {outer : List Env} {L a x dx d C C' : Addr} {m : Str → Option Value} {news : List (Addr × Obj)} {g : Obj → List (Addr × Obj)} {G : Obj → Obj → List (Addr × Obj)} {s : Shared} {Q E : Value → Shared → Prop}
  {dp un n : Nat} {gd : Option (List Code)} {cn : Str} {cs : Scope} {ccd : Value} {cl : List (Str × Addr)} {loose : List Str} {mean : ExcName → Option Value} {mg mb : Str → Option Value} {o od : Obj} {fs fs' fs2 : FS} {ds ds' : DS} {f : Addr} {args : List AV} {vs : List Value} {fl : Bool}
  (B : Below A₀ base outer h₀) (F : Fr h₀ L s.heap m) (X : (hd.heap_1 w.params).In h₀) (T : Top topProg loose mean mg mb h₀) (hk : cs.kind = .function) (hdp : dp < n)
  (N : News h₀ L s.heap news) (hx : (x, instObj C dx) ∈ news) (U : UpdF dx o news g) (V : ∀ o', UpdF d od (g o') (G o')) (nxdx : @Ne Nat x dx) (nxd : @Ne Nat x d) (ndd : @Ne Nat dx d) (lo : (d == sysModules) = false)
  (hD : Dk w.params o fs) (hB : DkB w od ds) (mm : ∀ own ap, MM w (LgD w x dx d C od own ap) n f args (fs, ds, false) (New w (LgD w x dx d C od own ap) C' fs2 (fs', ds', fl))) (ha : ArgsV args vs)
  (ret : ∀ x' dx' o' ot' od' h' tk, Dk w.params o' fs2 → Dk w.params ot' fs' → DkB w od' ds' → (fl = false → od' = od) → Fr h₀ L h' m → News h₀ L h' ((x', instObj C' dx') :: (dx', o') :: G ot' od') → (∀ q ∈ G ot' od', q.1 < dx') → @LT.lt Nat _ dx' x' → Q (.ref x') { s with heap := h', toks := tk }) :
  wpAny (model rw_on0267_01.row.prog w) (ktrTop dp un gd cn cs L a ccd cl outer) (call (.ref f) (.ref x :: vs)) Q E s := by
  obtain ⟨own, hoff, N1, sub⟩ := split6 N hx U V nxdx nxd ndd
  refine (mm own ⟨nxdx, nxd, ndd, hoff, lo⟩).run B X T hk hdp F N1 ⟨o, od, hD, hB, fun _ => rfl, rfl⟩ ha fun s' v nw' h F' N' nn => ?_
  obtain ⟨x', dx', o', nw, rfl, rfl, D, ⟨ot', od', h1, h2, h3, rfl⟩, l1, l2⟩ := nn
  rw [h.to]
  refine ret x' dx' o' ot' od' _ _ D h1 h2 h3 F' (fun p hp => N' p ?_) (fun q hq => l1 q (sub _ _ _ hq)) l2
  rcases List.mem_cons.mp hp with rfl | hp
  · exact .head _
  · rcases List.mem_cons.mp hp with rfl | hp
    · exact .tail _ (.head _)
    · exact .tail _ (.tail _ (sub _ _ _ hp))
theorem open_r {x dx : Addr}
  {d : Addr} {ot od : Obj} {oc : List UInt8} {n : Int} {ta tb t1 t2 : Tok} {G : Obj → Obj → List (Addr × Obj)}
  (B : Below A₀ base outer h₀) (F : Fr h₀ L s.heap m) (X : (hd.heap_1 w.params).In h₀) (T : Top topProg loose mean mg mb h₀) (hk : cs.kind = .function) (hdp : dp < 550) (hun : un < 500)
  (N : News h₀ L s.heap news) (hx : (x, instObj 400 dx) ∈ news) (U : UpdF dx ot news g) (V : ∀ o', UpdF d od (g o') (G o')) (ho : IsFT w.params ot d n) (hod : od.IsDictOf (bytesKind rw_on0267_01.row.prog w) [([97], Value.bytes oc.toArray t1), ([98], Value.bytes ([] : List UInt8).toArray t2)]) (lo : (d == sysModules) = false) (hn0 : 0 ≤ n) (hn1 : n ≤ 1000) (hz : oc.length ≤ 1000) (nxdx : @Ne Nat x dx) (nxd : @Ne Nat x d) (ndd : @Ne Nat dx d)
  (ret : ∀ x' dx' o' ot' h' tk, IsR w.params o' oc 0 false false → IsFT w.params ot' d (n + 1) → Fr h₀ L h' m → News h₀ L h' ((x', instObj 226 dx') :: (dx', o') :: G ot' od) → (∀ q ∈ G ot' od, q.1 < dx') → @LT.lt Nat _ dx' x' → Q (.ref x') { s with heap := h', toks := tk }) :
  wpAny (model rw_on0267_01.row.prog w) (ktrTop dp un gd cn cs L a ccd cl outer) (call (.ref 364) [.ref x, .bytes #[97] ta, .bytes #[114] tb]) Q E s := by
  obtain ⟨si, so, se, hD⟩ := ho
  exact useM B F X T hk (Nat.lt_of_lt_of_le hdp (by decide)) N hx U V nxdx nxd ndd lo hD (dsk_of hod) (fun own ap => mt_open_r (ap := ap) hz) (.cons ta (.cons tb .nil)) fun x' dx' o' ot' od' h' tk D T' O' he F' N' l1 l2 => ret x' dx' o' ot' h' tk (D_isR0 D (by decide) (Int.natCast_nonneg _) hz rfl) ⟨_, _, _, T'⟩ F' (he rfl ▸ N') (he rfl ▸ l1) l2
theorem open_w {x dx : Addr}
  {d : Addr} {ot od : Obj} {oc : List UInt8} {n : Int} {ta tb t1 t2 : Tok} {G : Obj → Obj → List (Addr × Obj)} {wd : List UInt8}
  (B : Below A₀ base outer h₀) (F : Fr h₀ L s.heap m) (X : (hd.heap_1 w.params).In h₀) (T : Top topProg loose mean mg mb h₀) (hk : cs.kind = .function) (hdp : dp < 550) (hun : un < 500)
  (N : News h₀ L s.heap news) (hx : (x, instObj 400 dx) ∈ news) (U : UpdF dx ot news g) (V : ∀ o', UpdF d od (g o') (G o')) (ho : IsFT w.params ot d n) (hod : od.IsDictOf (bytesKind rw_on0267_01.row.prog w) [([97], Value.bytes oc.toArray t1), ([98], Value.bytes ([] : List UInt8).toArray t2)]) (lo : (d == sysModules) = false) (hn0 : 0 ≤ n) (hn1 : n ≤ 1000) (hz : oc.length ≤ 1000) (nxdx : @Ne Nat x dx) (nxd : @Ne Nat x d) (ndd : @Ne Nat dx d) (hwd : wd = [114, 43] ∨ wd = [119] ∨ wd = [119, 43] ∨ wd = [97])
  (ret : ∀ x' dx' o' ot' od' t' h' tk, IsD w.params o' d (decide (wd = [114, 43] ∨ wd = [119, 43])) true (if wd = [97] then (oc.length : Int) else 0) → IsFT w.params ot' d (n + 1) → od'.IsDictOf (bytesKind rw_on0267_01.row.prog w) [([97], Value.bytes (if wd = [119] ∨ wd = [119, 43] then [] else oc).toArray t'), ([98], Value.bytes ([] : List UInt8).toArray t2)] → Fr h₀ L h' m → News h₀ L h' ((x', instObj 280 dx') :: (dx', o') :: G ot' od') → (∀ q ∈ G ot' od', q.1 < dx') → @LT.lt Nat _ dx' x' → Q (.ref x') { s with heap := h', toks := tk }) :
  wpAny (model rw_on0267_01.row.prog w) (ktrTop dp un gd cn cs L a ccd cl outer) (call (.ref 364) [.ref x, .bytes #[97] ta, .bytes wd.toArray tb]) Q E s := by
  obtain ⟨si, so, se, hD⟩ := ho
  rcases hwd with rfl | rfl | rfl | rfl
  · exact useM B F X T hk (Nat.lt_of_lt_of_le hdp (by decide)) N hx U V nxdx nxd ndd lo hD (dsk_of hod) (fun own ap => mt_open_rp (ap := ap) hz) (.cons ta (.cons tb .nil)) fun x' dx' o' ot' od' h' tk D T' O' he F' N' l1 l2 => (dsk_to O').elim fun t' O9 => ret x' dx' o' ot' od' t' h' tk ⟨_, _, _, D⟩ ⟨_, _, _, T'⟩ O9 F' N' l1 l2
  · exact useM B F X T hk (Nat.lt_of_lt_of_le hdp (by decide)) N hx U V nxdx nxd ndd lo hD (dsk_of hod) (fun own ap => mt_open_w (ap := ap) hz) (.cons ta (.cons tb .nil)) fun x' dx' o' ot' od' h' tk D T' O' he F' N' l1 l2 => (dsk_to O').elim fun t' O9 => ret x' dx' o' ot' od' t' h' tk ⟨_, _, _, D⟩ ⟨_, _, _, T'⟩ O9 F' N' l1 l2
  · exact useM B F X T hk (Nat.lt_of_lt_of_le hdp (by decide)) N hx U V nxdx nxd ndd lo hD (dsk_of hod) (fun own ap => mt_open_wp (ap := ap) hz) (.cons ta (.cons tb .nil)) fun x' dx' o' ot' od' h' tk D T' O' he F' N' l1 l2 => (dsk_to O').elim fun t' O9 => ret x' dx' o' ot' od' t' h' tk ⟨_, _, _, D⟩ ⟨_, _, _, T'⟩ O9 F' N' l1 l2
  · exact useM B F X T hk (Nat.lt_of_lt_of_le hdp (by decide)) N hx U V nxdx nxd ndd lo hD (dsk_of hod) (fun own ap => mt_open_a (ap := ap) hz) (.cons ta (.cons tb .nil)) fun x' dx' o' ot' od' h' tk D T' O' he F' N' l1 l2 => (dsk_to O').elim fun t' O9 => ret x' dx' o' ot' od' t' h' tk ⟨_, _, _, D⟩ ⟨_, _, _, T'⟩ O9 F' N' l1 l2
end
section -- HZT
variable {w : World} {A₀ : Around} {base h₀ : Heap} {outer : List Env} {L a : Addr} {m : Str → Option Value} {news : List (Addr × Obj)} {g : Obj → List (Addr × Obj)} {s : Shared} {Q E : Value → Shared → Prop} {dp un : Nat} {gd : Option (List Code)} {cn : Str} {cs : Scope} {ccd : Value} {cl : List (Str × Addr)} {loose : List Str} {mean : ExcName → Option Value} {mg mb : Str → Option Value}
theorem split7 {h₀ h : Heap} {L x dx d : Addr} {ox o od : Obj} {news : List (Addr × Obj)} {g : Obj → List (Addr × Obj)}
    (N : News h₀ L h news) (hx : (x, ox) ∈ news) (hdx : (dx, o) ∈ news) (U : UpdF d od news g) (hne : x ≠ dx) (hxd : x ≠ d) (hdd : dx ≠ d) :
    ∃ own, OwnOff own [x, dx, d] ∧ News h₀ L h ((x, ox) :: (dx, o) :: (d, od) :: own) ∧ ∀ od' p, p ∈ g od' → p ∈ (x, ox) :: (dx, o) :: (d, od') :: own := by
  obtain ⟨own, hoff, N1, sub⟩ := own3 N hx hdx (upd_mem U)
  refine ⟨own, hoff, N1, fun od' p hp => ?_⟩
  rcases updF_of U hp with rfl | ⟨h1, h2⟩
  · exact .tail _ (.tail _ (.head _))
  · by_cases q : p.1 = dx
    · rw [show p = (dx, o) from Prod.ext q (Option.some.inj ((N _ h1).1.symm.trans (q ▸ (N _ hdx).1)))]; exact .tail _ (.head _)
    · exact sub o od' p h1 q h2
noncomputable abbrev LgE (w : World) (x dx d C : Addr) (o0 od0 : Obj) (own : List (Addr × Obj)) (ap : Apt x dx d own) : Lg w.params (FS × DS × Bool × Bool) where
  x := x
  dx := dx
  C := C
  Led := fun ω nw => ∃ o od, Dk w.params o ω.1 ∧ DkB w od ω.2.1 ∧ (ω.2.2.1 = false → od = od0) ∧ (ω.2.2.2 = false → o = o0) ∧ nw = (x, instObj C dx) :: (dx, o) :: (d, od) :: own
  fs := fun ω => ω.1
  put := fun ω fs => (fs, ω.2.1, ω.2.2.1, true)
  self := fun ω nw ⟨o, od, h, hd, hf, _, e⟩ => ⟨o, fun o' => (x, instObj C dx) :: (dx, o') :: (d, od) :: own, e ▸ .head _, h, e ▸ .tail ap.xdx (.head fun p hp => by
    rcases List.mem_cons.mp hp with rfl | hp
    · exact Ne.symm ap.dxd
    · exact ap.off p hp dx (.tail _ (.head _))), fun o' f' h' => ⟨o', od, h', hd, hf, (fun z => nomatch z), rfl⟩⟩
noncomputable abbrev dskE (w : World) (x dx d C : Addr) (o0 od0 : Obj) (own : List (Addr × Obj)) (ap : Apt x dx d own) : Dsk (LgE w x dx d C o0 od0 own ap) where
  d := d
  lo := ap.lo
  ds := fun ω => ω.2.1
  putd := fun ω ds => (ω.1, ds, true, ω.2.2.2)
  get := fun ω nw ⟨o, od, h, hd, _, h0, e⟩ => ⟨od, fun od' => (x, instObj C dx) :: (dx, o) :: (d, od') :: own, hd, e ▸ .tail ap.xd (.tail ap.dxd (.head fun p hp => ap.off p hp d (.tail _ (.tail _ (.head _))))), fun od' ds' h' => ⟨o, od', h, h', (fun z => nomatch z), h0, rfl⟩⟩
theorem useER {x dx d C f : Addr} {o od : Obj} {fs : FS} {ds : DS} {args : List AV} {vs : List Value} {msg : List UInt8}
  (B : Below A₀ base outer h₀) (F : Fr h₀ L s.heap m) (X : (hd.heap_1 w.params).In h₀) (T : Top topProg loose mean mg mb h₀) (hk : cs.kind = .function) (hdp : dp < n)
  (N : News h₀ L s.heap news) (hx : (x, instObj C dx) ∈ news) (hdx : (dx, o) ∈ news) (U : UpdF d od news g) (nxdx : @Ne Nat x dx) (nxd : @Ne Nat x d) (ndd : @Ne Nat dx d) (lo : (d == sysModules) = false) (hD : Dk w.params o fs) (hB : DkB w od ds)
  (mc : ∀ own ap, RC w (LgE w x dx d C o od own ap) n f args (fs, ds, false, false) msg (fs, ds, false, false)) (ha : ArgsV args vs)
  (ret : ∀ G e de hsh k n tk tk' h', Fr h₀ L G m → RaisedE base G (envX cn cs L a ccd cl :: outer) e de ((de, toldD hsh k n msg.toArray tk) :: g od) h' → G.UpToSlots h' → E (.ref e) { s with heap := h', toks := tk' }) :
  wpAny (model rw_on0267_01.row.prog w) (ktrTop dp un gd cn cs L a ccd cl outer) (call (.ref f) (.ref x :: vs)) Q E s := by
  obtain ⟨own, hoff, N1, sub⟩ := split7 N hx hdx U nxdx nxd ndd
  refine wpAny_call ((mc own ⟨nxdx, nxd, ndd, hoff, lo⟩).code B X T hk hdp F N1 ⟨o, od, hD, hB, fun _ => rfl, fun _ => rfl, rfl⟩ ha fun s' G e de hsh k n tk nw' h2 FG R V led => ?_)
  obtain ⟨o', od', _, _, e1, e2, rfl⟩ := led
  obtain rfl := e1 rfl
  obtain rfl := e2 rfl
  rw [Same.to h2]
  exact ret G e de hsh k n tk _ s'.heap FG (raisedSub R fun q hq => by
    rcases List.mem_cons.mp hq with rfl | hq
    · exact .head _
    · exact .tail _ (sub _ q hq)) V
theorem useE {x dx d C f : Addr} {o od : Obj} {fs : FS} {ds ds' : DS} {args : List AV} {vs : List Value} {y : AV} {fl : Bool}
  (B : Below A₀ base outer h₀) (F : Fr h₀ L s.heap m) (X : (hd.heap_1 w.params).In h₀) (T : Top topProg loose mean mg mb h₀) (hk : cs.kind = .function) (hdp : dp < n)
  (N : News h₀ L s.heap news) (hx : (x, instObj C dx) ∈ news) (hdx : (dx, o) ∈ news) (U : UpdF d od news g) (nxdx : @Ne Nat x dx) (nxd : @Ne Nat x d) (ndd : @Ne Nat dx d) (lo : (d == sysModules) = false) (hD : Dk w.params o fs) (hB : DkB w od ds)
  (mc : ∀ own ap, MC w (LgE w x dx d C o od own ap) n f args (fs, ds, false, false) y (fs, ds', fl, false)) (ha : ArgsV args vs)
  (ret : ∀ od' t h' tk, DkB w od' ds' → (fl = false → od' = od) → Fr h₀ L h' m → News h₀ L h' (g od') → Q (y.v t) { s with heap := h', toks := tk }) :
  wpAny (model rw_on0267_01.row.prog w) (ktrTop dp un gd cn cs L a ccd cl outer) (call (.ref f) (.ref x :: vs)) Q E s := by
  obtain ⟨own, hoff, N1, sub⟩ := split7 N hx hdx U nxdx nxd ndd
  refine wpAny_call ((mc own ⟨nxdx, nxd, ndd, hoff, lo⟩).code B X T hk hdp F N1 ⟨o, od, hD, hB, fun _ => rfl, fun _ => rfl, rfl⟩ ha fun s' t nw' h2 F' N' led => ?_)
  obtain ⟨o', od', _, hB', e1, e2, rfl⟩ := led
  obtain rfl := e2 rfl
  rw [Same.to h2]
  exact ret od' t _ _ hB' e1 F' fun p hp => N' p (sub _ p hp)
section
open PySem.W PyProof PyProof.V PySem.Calls PySem.Spec
variable {W : Type} {c : Cx W} {l : FS} {ω ω1 : W} {e e1 : Expr} {x : AV} {b msg : List UInt8} {pos pos1 : Pos}
theorem EX.dpop (Δ : Dsk c.Λ) (p : EX c l ω e (.val (.ref Δ.d)) ω) (p1 : EX c l ω e1 (.bytes b) ω1) (hl : dval (Δ.ds ω1) b = some x) (hz : Nat.ble (Δ.ds ω1).length 1000 = true) {pl : Sem Bool}
    (he : eval (.Call (.Attribute e (Str.ofString "pop") pos1) [e1] [] pos) c.env = (do
      let ov ← eval e c.env
      standAt pos1.atName
      let (f, first) ← holding [ov] (getMethod ov (Str.ofString "pop") pl)
      callWith pos f first (backTo pos (starEach [e1] c.env)) []) := by rfl)
    (ha : starEach [e1] c.env = (false, eval e1 c.env) :: starEach [] c.env := by rfl) (hp : (backTo pos (starEach [] c.env)).any (·.1) = false := by rfl) :
    EX c l ω (.Call (.Attribute e (Str.ofString "pop") pos1) [e1] [] pos) x (Δ.putd ω1 (dwo b (Δ.ds ω1))) := .mk fun s Q E S H =>
  MethodCall_ (p.run s _ E S fun s1 t h1 S1 => by
    refine St.elim S1 fun vs nw a led F N => ?_
    obtain ⟨od, g, ⟨kvs, hk, hd⟩, U, _⟩ := Δ.get ω nw led
    refine kob_method PySem.F.slot_dict_pop PySem.F.type_dict_pop N (upd_mem U) hd (callWith_method1 (args_cons (p1.run _ _ E S1 fun s2 t2 h2 S2 => args_nil ?_) ha) ha hp)
    refine St.elim S2 fun vs3 nw3 a3 led3 F3 N3 => ?_
    obtain ⟨od3, g3, ⟨kvs3, hk3, hd3⟩, U3, hU⟩ := Δ.get ω1 nw3 led3
    obtain ⟨t4, ht4⟩ := hk3.get b
    rw [hl] at ht4
    exact kob_pop (knd := bytesKind _ _) (more := []) F3 N3 U3 hd3 (bytesKind_is _ _ b t2) (.inl rfl) rfl (PySem.F.args_dict_pop_2 _ _) ht4 (by rw [hk3.len, sizeLine_eq]; exact Nat.le_trans (Nat.le_of_ble_eq_true hz) (by decide)) fun h' o' F' N' hd' =>
      H _ t4 ((h1.trans h2).trans ⟨rfl, rfl, rfl⟩) ⟨vs3, _, a3, hU _ _ ⟨_, hk3.wo b, hd'⟩, F', N'⟩) he
theorem ER.dpop (Δ : Dsk c.Λ) (p : EX c l ω e (.val (.ref Δ.d)) ω) (p1 : ER c l ω e1 msg ω1) {pl : Sem Bool}
    (he : eval (.Call (.Attribute e (Str.ofString "pop") pos1) [e1] [] pos) c.env = (do
      let ov ← eval e c.env
      standAt pos1.atName
      let (f, first) ← holding [ov] (getMethod ov (Str.ofString "pop") pl)
      callWith pos f first (backTo pos (starEach [e1] c.env)) []) := by rfl)
    (ha : starEach [e1] c.env = (false, eval e1 c.env) :: starEach [] c.env := by rfl) (hp : (backTo pos (starEach [] c.env)).any (·.1) = false := by rfl) :
    ER c l ω (.Call (.Attribute e (Str.ofString "pop") pos1) [e1] [] pos) msg ω1 := .mk fun s Q E S H =>
  MethodCall_ (p.run s _ E S fun s1 t h1 S1 => by
    refine St.elim S1 fun vs nw a led F N => ?_
    obtain ⟨od, g, ⟨kvs, hk, hd⟩, U, _⟩ := Δ.get ω nw led
    exact kob_method PySem.F.slot_dict_pop PySem.F.type_dict_pop N (upd_mem U) hd (callWith_method1 (args_cons (p1.run _ _ E S1 fun s2 e2 h2 r2 => H s2 e2 (h1.trans h2) r2) ha) ha hp)) he
end
theorem mz_dev_a {W : Type} {w : World} {Λ : Lg w.params W} {ω : W} : FC w Λ 690 329 [.bytes [97]] ω (.bytes [97]) ω := by
  refine' FC.of1 (Str.ofString "name") (fun hk bs hdp9 => ?b) rfl rfl rfl (by intro _; kernel_rfl) rfl rfl rfl rfl (by decide)
  exact SX.ret (EX.if2 (TX.cast (TX.cmp (EX.slj (EX.nm rfl) EX.ci (by decide) (by decide)) EX.cb Cm.eqB) (by decide)) (EX.nm rfl))
theorem mz_dev_b {W : Type} {w : World} {Λ : Lg w.params W} {ω : W} : FC w Λ 690 329 [.bytes [98]] ω (.bytes [98]) ω := by
  refine' FC.of1 (Str.ofString "name") (fun hk bs hdp9 => ?b) rfl rfl rfl (by intro _; kernel_rfl) rfl rfl rfl rfl (by decide)
  exact SX.ret (EX.if2 (TX.cast (TX.cmp (EX.slj (EX.nm rfl) EX.ci (by decide) (by decide)) EX.cb Cm.eqB) (by decide)) (EX.nm rfl))
theorem mz_dev_c {W : Type} {w : World} {Λ : Lg w.params W} {ω : W} : FC w Λ 690 329 [.bytes [99]] ω (.bytes [99]) ω := by
  refine' FC.of1 (Str.ofString "name") (fun hk bs hdp9 => ?b) rfl rfl rfl (by intro _; kernel_rfl) rfl rfl rfl rfl (by decide)
  exact SX.ret (EX.if2 (TX.cast (TX.cmp (EX.slj (EX.nm rfl) EX.ci (by decide) (by decide)) EX.cb Cm.eqB) (by decide)) (EX.nm rfl))
theorem mz_dev_n {W : Type} {w : World} {Λ : Lg w.params W} {ω : W} : FC w Λ 690 329 [.bytes [110, 111, 110, 101]] ω (.bytes [110, 111, 110, 101]) ω := by
  refine' FC.of1 (Str.ofString "name") (fun hk bs hdp9 => ?b) rfl rfl rfl (by intro _; kernel_rfl) rfl rfl rfl rfl (by decide)
  exact SX.ret (EX.if2 (TX.cast (TX.cmp (EX.slj (EX.nm rfl) EX.ci (by decide) (by decide)) EX.cb Cm.eqB) (by decide)) (EX.nm rfl))
noncomputable abbrev dsA2 (v u : Value) : DS := [([97], .val v), ([98], .val u)]
theorem dkb2 {w : World} {od : Obj} {v u : Value} (h : od.IsDictOf (bytesKind rw_on0267_01.row.prog w) [([97], v), ([98], u)]) : DkB w od (dsA2 v u) := ⟨_, .cons 0 (.cons 0 .nil), h⟩
section
variable {w : World} {x dx d : Addr} {o0 od0 : Obj} {own : List (Addr × Obj)} {ap : Apt x dx d own} {n : Int} {v u : Value} {ds : DS} {fl fo : Bool} {si so se : AV} {ac : List UInt8}
theorem kw_34 : True := by
  k_with "mok" => with_reducible exact mkT_standard
  k_with "exf" => exact EX.fun1 (by kernel_rfl) (by kernel_rfl) (by walk_at "ex") (by first | exact mz_dev_a | exact mz_dev_n | exact mz_dev_b | exact mz_dev_c) (by walk_at "dp9")
  k_with "ex" => first
      | ((with_reducible show EX _ _ _ (Expr.Subscript (Expr.Attribute _ _ _) _ _) _ _); exact EX.dsub (dskE w x dx d 400 o0 od0 own ap) (by walk_at "ex") (by walk_at "ex") rfl)
      | ((with_reducible show EX _ _ _ (Expr.Compare _ _ _ _) _ _); first | exact EX.cmpIs (q1 := true) (by walk_at "ex") (by walk_at "ex") (by walk_at "cm") (by decide) | exact EX.cmpIs (q1 := false) (by walk_at "ex") (by walk_at "ex") (by walk_at "cm") (by decide))
  k_with "tx" => first
      | ((with_reducible show TX _ _ _ (Expr.Compare _ [CmpOp.NotIn] [Expr.Attribute _ _ _] _) _ _); exact TX.dnotin (dskE w x dx d 400 o0 od0 own ap) (by walk_at "ex") (by walk_at "ex"))
      | ((with_reducible show TX _ _ _ (Expr.Compare _ [CmpOp.In] [Expr.Attribute _ _ _] _) _ _); exact TX.din (dskE w x dx d 400 o0 od0 own ap) (by walk_at "ex") (by walk_at "ex"))
      | ((with_reducible show TX _ _ _ (Expr.Compare _ [CmpOp.NotIn] [Expr.Name _ _] _) _ _); exact TX.notinT (by walk_at "ex") (EX.glob (by walk_at "fa")) (by walk_at "fb") (by (repeat' (first | exact trivial | refine ⟨⟨_, _, rfl⟩, ?_⟩))) (by rfl))
  k_with "rx" => first
      | ((with_reducible show RX _ _ _ (Stmt.Raise _ _ _ :: _) _ _); exact RX.raise (by kernel_rfl) (by kernel_rfl) (by walk_at "ex") (by walk_at "dp9"))
      | ((with_reducible show RX _ _ _ (Stmt.If _ _ _ _ :: _) _ _); first | exact RX.ifF (TX.cast (by walk_at "tx") (by walk_at "bt")) (by walk_at "rx") | exact RX.ifT (TX.cast (by walk_at "tx") (by walk_at "bt")) (by walk_at "rx"))
      | ((with_reducible show RX _ _ _ (Stmt.Assign [Expr.Name _ _] _ _ :: _) _ _); exact RX.asg (by walk_at "ex") (by walk_at "rx"))
  trivial
theorem mz_std : MC w (LgE w x dx d 400 o0 od0 own ap) 690 357 [.bytes [110, 111, 110, 101], .bytes [114]] (fsT d n si so se, ds, fl, fo) (.val .none) (fsT d n si so se, ds, fl, fo) := by
  refine' MC.of (l0 := [(Str.ofString "access", .bytes [114]), (Str.ofString "name", .bytes [110, 111, 110, 101]), (Str.ofString "self", .val (.ref x))]) (fun hk bs hdp9 => ?b) (.inl rfl) rfl rfl rfl (fun s vs h => ?bd) rfl rfl rfl (by decide)
  case bd =>
    obtain ⟨t1, vs1, e1, h1⟩ := h.inv
    obtain ⟨t2, vs2, e2, h2⟩ := h1.inv
    rw [e1, e2, h2.inv0]
    exact ⟨[(Str.ofString "self", .ref x), (Str.ofString "name", AV.v (.bytes [110, 111, 110, 101]) t1), (Str.ofString "access", AV.v (.bytes [114]) t2)], BindsTo.of_eq (by kernel_rfl), .cons t2 (.cons t1 (.cons default .nil)), locs rfl⟩
  case b => walk_at "sx"
theorem kw_35 : True := by
  k_with "mcs" => exact mz_std (ap := ap)
  trivial
theorem rt_open_none : RC w (LgE w x dx d 400 o0 od0 own ap) 680 364 [.bytes [110, 111, 110, 101], .bytes [114]] (fsT d n si so se, dsA2 v u, fl, fo) [117, 110, 100, 101, 102, 105, 110, 101, 100, 102, 105, 108, 101, 110, 97, 109, 101] (fsT d n si so se, dsA2 v u, fl, fo) := by
  refine' RC.of (l0 := [(Str.ofString "access", .bytes [114]), (Str.ofString "told", .bytes [110, 111, 110, 101]), (Str.ofString "self", .val (.ref x))]) (fun hk bs hdp9 => ?b) rfl rfl rfl (fun s vs h => ?bd) rfl rfl rfl (by decide)
  case bd =>
    obtain ⟨t1, vs1, e1, h1⟩ := h.inv
    obtain ⟨t2, vs2, e2, h2⟩ := h1.inv
    rw [e1, e2, h2.inv0]
    exact ⟨[(Str.ofString "self", .ref x), (Str.ofString "told", AV.v (.bytes [110, 111, 110, 101]) t1), (Str.ofString "access", AV.v (.bytes [114]) t2)], BindsTo.of_eq (by kernel_rfl), .cons t2 (.cons t1 (.cons default .nil)), locs rfl⟩
  case b => walk_at "rx"
theorem rt_open_rw : RC w (LgE w x dx d 400 o0 od0 own ap) 680 364 [.bytes [97], .bytes [114, 119]] (fsT d n si so se, ds, fl, fo) [105, 110, 118, 97, 108, 105, 100, 102, 105, 108, 101, 97, 99, 99, 101, 115, 115] (fsT d n si so se, ds, fl, fo) := by
  refine' RC.of (l0 := [(Str.ofString "access", .bytes [114, 119]), (Str.ofString "told", .bytes [97]), (Str.ofString "self", .val (.ref x))]) (fun hk bs hdp9 => ?b) rfl rfl rfl (fun s vs h => ?bd) rfl rfl rfl (by decide)
  case bd =>
    obtain ⟨t1, vs1, e1, h1⟩ := h.inv
    obtain ⟨t2, vs2, e2, h2⟩ := h1.inv
    rw [e1, e2, h2.inv0]
    exact ⟨[(Str.ofString "self", .ref x), (Str.ofString "told", AV.v (.bytes [97]) t1), (Str.ofString "access", AV.v (.bytes [114, 119]) t2)], BindsTo.of_eq (by kernel_rfl), .cons t2 (.cons t1 (.cons default .nil)), locs rfl⟩
  case b => walk_at "rx"
theorem mz_size_a {oc : List UInt8} (hz : oc.length ≤ 1000) : MC w (LgE w x dx d 400 o0 od0 own ap) 680 371 [.bytes [97]] (fsT d n si so se, dsA oc v, fl, fo) (.int oc.length) (fsT d n si so se, dsA oc v, fl, fo) := by
  refine' MC.of1 (Str.ofString "told") (fun hk bs hdp9 => ?b) (.inl rfl) rfl rfl rfl (by intro _ _; kernel_rfl) rfl rfl rfl rfl rfl (by decide)
  case b => walk_at "sx"
theorem mz_size_none : MC w (LgE w x dx d 400 o0 od0 own ap) 680 371 [.bytes [110, 111, 110, 101]] (fsT d n si so se, dsA2 v u, fl, fo) (.val .none) (fsT d n si so se, dsA2 v u, fl, fo) := by
  refine' MC.of1 (Str.ofString "told") (fun hk bs hdp9 => ?b) (.inl rfl) rfl rfl rfl (by intro _ _; kernel_rfl) rfl rfl rfl rfl rfl (by decide)
  case b => walk_at "sx"
theorem mkT_known {P : Params} : MOk (hd.heap_1 P) 400 (Str.ofString "known") 378 := ⟨cgT.hg, by kernel_rfl, by kernel_rfl, by kernel_rfl⟩
theorem kw_36 : True := by
  k_with "mok" => with_reducible exact mkT_known
  trivial
theorem mz_known_b : MC w (LgE w x dx d 400 o0 od0 own ap) 685 378 [.bytes [98]] (fsT d n si so se, [([98], .val u), ([99], .val v)], fl, fo) (.bytes [98]) (fsT d n si so se, [([98], .val u), ([99], .val v)], fl, fo) := by
  refine' MC.of1 (Str.ofString "told") (fun hk bs hdp9 => ?b) (.inl rfl) rfl rfl rfl (by intro _ _; kernel_rfl) rfl rfl rfl rfl rfl (by decide)
  case b => walk_at "sx"
theorem kw_37 : True := by
  k_with "mcs" => exact mz_known_b (ap := ap)
  trivial
theorem mz_delete_b : MC w (LgE w x dx d 400 o0 od0 own ap) 680 385 [.bytes [98]] (fsT d n si so se, [([98], .val u), ([99], .val v)], false, fo) (.val .none) (fsT d n si so se, [([99], .val v)], true, fo) := by
  refine' MC.of1 (Str.ofString "told") (fun hk bs hdp9 => ?b) (.inr ⟨rfl, rfl⟩) rfl rfl rfl (by intro _ _; kernel_rfl) rfl rfl rfl rfl rfl (by decide)
  case b => exact SX.exp (EX.dpop (dskE w x dx d 400 o0 od0 own ap) (by walk_at "ex") (by walk_at "mc") rfl rfl) SX.nilF
theorem rt_known_b : RC w (LgE w x dx d 400 o0 od0 own ap) 685 378 [.bytes [98]] (fsT d n si so se, [([99], .val v)], fl, fo) [117, 110, 100, 101, 102, 105, 110, 101, 100, 102, 105, 108, 101, 110, 97, 109, 101] (fsT d n si so se, [([99], .val v)], fl, fo) := by
  refine' RC.of1 (Str.ofString "told") (fun hk bs hdp9 => ?b) rfl rfl rfl (by intro _ _; kernel_rfl) rfl rfl rfl rfl rfl (by decide)
  case b => walk_at "rx"
theorem rt_delete_b : RC w (LgE w x dx d 400 o0 od0 own ap) 680 385 [.bytes [98]] (fsT d n si so se, [([99], .val v)], fl, fo) [117, 110, 100, 101, 102, 105, 110, 101, 100, 102, 105, 108, 101, 110, 97, 109, 101] (fsT d n si so se, [([99], .val v)], fl, fo) := by
  refine' RC.of1 (Str.ofString "told") (fun hk bs hdp9 => ?b) rfl rfl rfl (by intro _ _; kernel_rfl) rfl rfl rfl rfl rfl (by decide)
  case b => exact RX.expR (ER.dpop (dskE w x dx d 400 o0 od0 own ap) (by walk_at "ex") (ER.methN rfl (by walk_at "mok") (by walk_at "exs") (rt_known_b (ap := ap)) (by walk_at "dp9")))
theorem mz_known_a : MC w (LgE w x dx d 400 o0 od0 own ap) 685 378 [.bytes [97]] (fsT d n si so se, dsA2 v u, fl, fo) (.bytes [97]) (fsT d n si so se, dsA2 v u, fl, fo) := by
  refine' MC.of1 (Str.ofString "told") (fun hk bs hdp9 => ?b) (.inl rfl) rfl rfl rfl (by intro _ _; kernel_rfl) rfl rfl rfl rfl rfl (by decide)
  case b => walk_at "sx"
theorem kw_38 : True := by
  k_with "mcs" => exact mz_known_a (ap := ap)
  trivial
theorem mz_rename_ac : MC w (LgE w x dx d 400 o0 od0 own ap) 680 392 [.bytes [97], .bytes [99]] (fsT d n si so se, dsA2 v u, false, fo) (.val .none) (fsT d n si so se, [([98], .val u), ([99], .val v)], true, fo) := by
  refine' MC.of (l0 := [(Str.ofString "other", .bytes [99]), (Str.ofString "told", .bytes [97]), (Str.ofString "self", .val (.ref x))]) (fun hk bs hdp9 => ?b) (.inr ⟨rfl, rfl⟩) rfl rfl rfl (fun s vs h => ?bd) rfl rfl rfl (by decide)
  case bd =>
    obtain ⟨t1, vs1, e1, h1⟩ := h.inv
    obtain ⟨t2, vs2, e2, h2⟩ := h1.inv
    rw [e1, e2, h2.inv0]
    exact ⟨[(Str.ofString "self", .ref x), (Str.ofString "told", AV.v (.bytes [97]) t1), (Str.ofString "other", AV.v (.bytes [99]) t2)], BindsTo.of_eq (by kernel_rfl), .cons t2 (.cons t1 (.cons default .nil)), locs rfl⟩
  case b => exact SX.tn2 (by walk_at "mc") (by walk_at "ex") (SX.ifF (TX.cast (by walk_at "tx") (by walk_at "bt")) SX.nil (SX.dset (dskE w x dx d 400 o0 od0 own ap) (EX.dpop (dskE w x dx d 400 o0 od0 own ap) (by walk_at "ex") (by walk_at "ex") rfl rfl) (by walk_at "ex") (by walk_at "ex") SX.nilF rfl))
end
end
section -- ConD4
variable {w : World} {A₀ : Around} {base h₀ : Heap} {outer : List Env} {L a : Addr} {m : Str → Option Value} {news : List (Addr × Obj)} {g : Obj → List (Addr × Obj)} {s : Shared} {Q E : Value → Shared → Prop} {dp un : Nat} {gd : Option (List Code)} {cn : Str} {cs : Scope} {ccd : Value} {cl : List (Str × Addr)} {loose : List Str} {mean : ExcName → Option Value} {mg mb : Str → Option Value}
theorem kw_39 : True := by
  w_top off
  k_with "compareOp NotIn bytes ref" => (k_here; (with_reducible show wpAny _ _ (compareOp CmpOp.NotIn (Value.bytes (List.toArray _) _) (Value.ref _)) _ _ _); k_dflt (first
      | (refine' notin_tupB (tup_N ?N ?m) ?v true ?b ?_; (case N => k_asm); (case m => k_mem); (case v => (repeat' (first | exact trivial | refine ⟨⟨_, _, rfl⟩, ?_⟩))); (case b => exact rfl))
      | (refine' notin_tupB (tup_N ?N ?m) ?v false ?b ?_; (case N => k_asm); (case m => k_mem); (case v => (repeat' (first | exact trivial | refine ⟨⟨_, _, rfl⟩, ?_⟩))); (case b => exact rfl))
      | (refine' notin_tupB (tup_K ?F ?X ?l) ?v true ?b ?_; (case F => k_asm); (case X => k_asm); (case l => k_is); (case v => (repeat' (first | exact trivial | refine ⟨⟨_, _, rfl⟩, ?_⟩))); (case b => exact rfl))
      | (refine' notin_tupB (tup_K ?F ?X ?l) ?v false ?b ?_; (case F => k_asm); (case X => k_asm); (case l => k_is); (case v => (repeat' (first | exact trivial | refine ⟨⟨_, _, rfl⟩, ?_⟩))); (case b => exact rfl))); (try dsimp only [Bool.not_true, Bool.not_false]))
  trivial
theorem KVs.one {k : List UInt8} {x : AV} {kvs : List (List UInt8 × Value)} (h : KVs [(k, x)] kvs) : ∃ t, kvs = [(k, x.v t)] := by
  cases h with
  | cons t h =>
    cases h with
    | nil => exact ⟨t, rfl⟩
theorem size_a {x dx : Addr}
  {d : Addr} {ot od : Obj} {oc : List UInt8} {n : Int} {ta tb t1 t2 : Tok} {G : Obj → Obj → List (Addr × Obj)}
  (B : Below A₀ base outer h₀) (F : Fr h₀ L s.heap m) (X : (hd.heap_1 w.params).In h₀) (T : Top topProg loose mean mg mb h₀) (hk : cs.kind = .function) (hdp : dp < 550) (hun : un < 500)
  (N : News h₀ L s.heap news) (hx : (x, instObj 400 dx) ∈ news) (U : UpdF dx ot news g) (V : ∀ o', UpdF d od (g o') (G o')) (ho : IsFT w.params ot d n) (hod : od.IsDictOf (bytesKind rw_on0267_01.row.prog w) [([97], Value.bytes oc.toArray t1), ([98], Value.bytes ([] : List UInt8).toArray t2)]) (lo : (d == sysModules) = false) (hn0 : 0 ≤ n) (hn1 : n ≤ 1000) (hz : oc.length ≤ 1000) (nxdx : @Ne Nat x dx) (nxd : @Ne Nat x d) (ndd : @Ne Nat dx d)
  (ret : ∀ ti h' tk, Fr h₀ L h' m → News h₀ L h' (G ot od) → Q (.int oc.length ti) { s with heap := h', toks := tk }) :
  wpAny (model rw_on0267_01.row.prog w) (ktrTop dp un gd cn cs L a ccd cl outer) (call (.ref 371) [.ref x, .bytes #[97] ta]) Q E s := by
  obtain ⟨si, so, se, hD⟩ := ho
  exact useE B F X T hk (Nat.lt_of_lt_of_le hdp (by decide)) N hx (upd_mem U) ((updF_again U).1.symm ▸ V ot) nxdx nxd ndd lo hD (dsk_of hod) (fun own ap => mz_size_a (ap := ap) hz) (.cons ta .nil) fun od' t h' tk hB e F' N' => ret t h' tk F' (e rfl ▸ N')
theorem size_none {x dx : Addr}
  {d : Addr} {ot od : Obj} {n : Int} {v : Value} {ta tb t2 : Tok}
  (B : Below A₀ base outer h₀) (F : Fr h₀ L s.heap m) (X : (hd.heap_1 w.params).In h₀) (T : Top topProg loose mean mg mb h₀) (hk : cs.kind = .function) (hdp : dp < 550) (hun : un < 500)
  (N : News h₀ L s.heap news) (hx : (x, instObj 400 dx) ∈ news) (hdx : (dx, ot) ∈ news) (U : UpdF d od news g) (ho : IsFT w.params ot d n) (hod : od.IsDictOf (bytesKind rw_on0267_01.row.prog w) [([97], v), ([98], Value.bytes ([] : List UInt8).toArray t2)]) (lo : (d == sysModules) = false) (nxdx : @Ne Nat x dx) (nxd : @Ne Nat x d) (ndd : @Ne Nat dx d)
  (ret : ∀ h' tk, Fr h₀ L h' m → News h₀ L h' (g od) → Q .none { s with heap := h', toks := tk }) :
  wpAny (model rw_on0267_01.row.prog w) (ktrTop dp un gd cn cs L a ccd cl outer) (call (.ref 371) [.ref x, .bytes #[110, 111, 110, 101] ta]) Q E s := by
  obtain ⟨si, so, se, hD⟩ := ho
  exact useE B F X T hk (Nat.lt_of_lt_of_le hdp (by decide)) N hx hdx U nxdx nxd ndd lo hD (dkb2 hod) (fun own ap => mz_size_none (ap := ap)) (.cons ta .nil) fun od' t h' tk hB e F' N' => ret h' tk F' (e rfl ▸ N')

theorem open_none {x dx : Addr}
  {d : Addr} {ot od : Obj} {n : Int} {v : Value} {ta tb t2 : Tok}
  (B : Below A₀ base outer h₀) (F : Fr h₀ L s.heap m) (X : (hd.heap_1 w.params).In h₀) (T : Top topProg loose mean mg mb h₀) (hk : cs.kind = .function) (hdp : dp < 550) (hun : un < 500)
  (N : News h₀ L s.heap news) (hx : (x, instObj 400 dx) ∈ news) (hdx : (dx, ot) ∈ news) (U : UpdF d od news g) (ho : IsFT w.params ot d n) (hod : od.IsDictOf (bytesKind rw_on0267_01.row.prog w) [([97], v), ([98], Value.bytes ([] : List UInt8).toArray t2)]) (lo : (d == sysModules) = false) (nxdx : @Ne Nat x dx) (nxd : @Ne Nat x d) (ndd : @Ne Nat dx d)
  (ret : ∀ G e de hsh k n tk tk' h', Fr h₀ L G m → RaisedE base G (envX cn cs L a ccd cl :: outer) e de ((de, toldD hsh k n #[117, 110, 100, 101, 102, 105, 110, 101, 100, 102, 105, 108, 101, 110, 97, 109, 101] tk) :: g od) h' → G.UpToSlots h' → E (.ref e) { s with heap := h', toks := tk' }) :
  wpAny (model rw_on0267_01.row.prog w) (ktrTop dp un gd cn cs L a ccd cl outer) (call (.ref 364) [.ref x, .bytes #[110, 111, 110, 101] ta, .bytes #[114] tb]) Q E s := by
  obtain ⟨si, so, se, hD⟩ := ho
  exact useER B F X T hk (Nat.lt_of_lt_of_le hdp (by decide)) N hx hdx U nxdx nxd ndd lo hD (dkb2 hod) (fun own ap => rt_open_none (ap := ap)) (.cons ta (.cons tb .nil)) ret

theorem open_rw {x dx : Addr}
  {d : Addr} {ot od : Obj} {n : Int} {v : Value} {ta tb t2 : Tok}
  (B : Below A₀ base outer h₀) (F : Fr h₀ L s.heap m) (X : (hd.heap_1 w.params).In h₀) (T : Top topProg loose mean mg mb h₀) (hk : cs.kind = .function) (hdp : dp < 550) (hun : un < 500)
  (N : News h₀ L s.heap news) (hx : (x, instObj 400 dx) ∈ news) (hdx : (dx, ot) ∈ news) (U : UpdF d od news g) (ho : IsFT w.params ot d n) (hod : od.IsDictOf (bytesKind rw_on0267_01.row.prog w) [([97], v), ([98], Value.bytes ([] : List UInt8).toArray t2)]) (lo : (d == sysModules) = false) (nxdx : @Ne Nat x dx) (nxd : @Ne Nat x d) (ndd : @Ne Nat dx d)
  (ret : ∀ G e de hsh k n tk tk' h', Fr h₀ L G m → RaisedE base G (envX cn cs L a ccd cl :: outer) e de ((de, toldD hsh k n #[105, 110, 118, 97, 108, 105, 100, 102, 105, 108, 101, 97, 99, 99, 101, 115, 115] tk) :: g od) h' → G.UpToSlots h' → E (.ref e) { s with heap := h', toks := tk' }) :
  wpAny (model rw_on0267_01.row.prog w) (ktrTop dp un gd cn cs L a ccd cl outer) (call (.ref 364) [.ref x, .bytes #[97] ta, .bytes #[114, 119] tb]) Q E s := by
  obtain ⟨si, so, se, hD⟩ := ho
  exact useER B F X T hk (Nat.lt_of_lt_of_le hdp (by decide)) N hx hdx U nxdx nxd ndd lo hD (dkb2 hod) (fun own ap => rt_open_rw (ap := ap)) (.cons ta (.cons tb .nil)) ret

theorem rename_ac {x dx : Addr}
  {d : Addr} {ot od : Obj} {n : Int} {v : Value} {ta tb t2 : Tok}
  (B : Below A₀ base outer h₀) (F : Fr h₀ L s.heap m) (X : (hd.heap_1 w.params).In h₀) (T : Top topProg loose mean mg mb h₀) (hk : cs.kind = .function) (hdp : dp < 550) (hun : un < 500)
  (N : News h₀ L s.heap news) (hx : (x, instObj 400 dx) ∈ news) (hdx : (dx, ot) ∈ news) (U : UpdF d od news g) (ho : IsFT w.params ot d n) (hod : od.IsDictOf (bytesKind rw_on0267_01.row.prog w) [([97], v), ([98], Value.bytes ([] : List UInt8).toArray t2)]) (lo : (d == sysModules) = false) (nxdx : @Ne Nat x dx) (nxd : @Ne Nat x d) (ndd : @Ne Nat dx d)
  (ret : ∀ od' h' tk, od'.IsDictOf (bytesKind rw_on0267_01.row.prog w) [([98], Value.bytes ([] : List UInt8).toArray t2), ([99], v)] → Fr h₀ L h' m → News h₀ L h' (g od') → Q .none { s with heap := h', toks := tk }) :
  wpAny (model rw_on0267_01.row.prog w) (ktrTop dp un gd cn cs L a ccd cl outer) (call (.ref 392) [.ref x, .bytes #[97] ta, .bytes #[99] tb]) Q E s := by
  obtain ⟨si, so, se, hD⟩ := ho
  exact useE B F X T hk (Nat.lt_of_lt_of_le hdp (by decide)) N hx hdx U nxdx nxd ndd lo hD (dkb2 hod) (fun own ap => mz_rename_ac (ap := ap)) (.cons ta (.cons tb .nil)) fun od' t h' tk hB e F' N' => by
    obtain ⟨kvs, hk', hd'⟩ := hB
    obtain ⟨t9, u9, rfl⟩ := hk'.two
    exact ret od' h' tk hd' F' N'

theorem delete_b {x dx : Addr}
  {d : Addr} {ot od : Obj} {n : Int} {v : Value} {ta tb t2 : Tok}
  (B : Below A₀ base outer h₀) (F : Fr h₀ L s.heap m) (X : (hd.heap_1 w.params).In h₀) (T : Top topProg loose mean mg mb h₀) (hk : cs.kind = .function) (hdp : dp < 550) (hun : un < 500)
  (N : News h₀ L s.heap news) (hx : (x, instObj 400 dx) ∈ news) (hdx : (dx, ot) ∈ news) (U : UpdF d od news g) (ho : IsFT w.params ot d n) (hod : od.IsDictOf (bytesKind rw_on0267_01.row.prog w) [([98], Value.bytes ([] : List UInt8).toArray t2), ([99], v)]) (lo : (d == sysModules) = false) (nxdx : @Ne Nat x dx) (nxd : @Ne Nat x d) (ndd : @Ne Nat dx d)
  (ret : ∀ od' h' tk, od'.IsDictOf (bytesKind rw_on0267_01.row.prog w) [([99], v)] → Fr h₀ L h' m → News h₀ L h' (g od') → Q .none { s with heap := h', toks := tk }) :
  wpAny (model rw_on0267_01.row.prog w) (ktrTop dp un gd cn cs L a ccd cl outer) (call (.ref 385) [.ref x, .bytes #[98] ta]) Q E s := by
  obtain ⟨si, so, se, hD⟩ := ho
  exact useE B F X T hk (Nat.lt_of_lt_of_le hdp (by decide)) N hx hdx U nxdx nxd ndd lo hD (⟨_, .cons 0 (.cons 0 .nil), hod⟩ : DkB w od [([98], .val (Value.bytes ([] : List UInt8).toArray t2)), ([99], .val v)]) (fun own ap => mz_delete_b (ap := ap)) (.cons ta .nil) fun od' t h' tk hB e F' N' => by
    obtain ⟨kvs, hk', hd'⟩ := hB
    obtain ⟨t9, rfl⟩ := hk'.one
    exact ret od' h' tk hd' F' N'

theorem delete_bad {x dx : Addr}
  {d : Addr} {ot od : Obj} {n : Int} {v : Value} {ta tb t2 : Tok}
  (B : Below A₀ base outer h₀) (F : Fr h₀ L s.heap m) (X : (hd.heap_1 w.params).In h₀) (T : Top topProg loose mean mg mb h₀) (hk : cs.kind = .function) (hdp : dp < 550) (hun : un < 500)
  (N : News h₀ L s.heap news) (hx : (x, instObj 400 dx) ∈ news) (hdx : (dx, ot) ∈ news) (U : UpdF d od news g) (ho : IsFT w.params ot d n) (hod : od.IsDictOf (bytesKind rw_on0267_01.row.prog w) [([99], v)]) (lo : (d == sysModules) = false) (nxdx : @Ne Nat x dx) (nxd : @Ne Nat x d) (ndd : @Ne Nat dx d)
  (ret : ∀ G e de hsh k n tk tk' h', Fr h₀ L G m → RaisedE base G (envX cn cs L a ccd cl :: outer) e de ((de, toldD hsh k n #[117, 110, 100, 101, 102, 105, 110, 101, 100, 102, 105, 108, 101, 110, 97, 109, 101] tk) :: g od) h' → G.UpToSlots h' → E (.ref e) { s with heap := h', toks := tk' }) :
  wpAny (model rw_on0267_01.row.prog w) (ktrTop dp un gd cn cs L a ccd cl outer) (call (.ref 385) [.ref x, .bytes #[98] ta]) Q E s := by
  obtain ⟨si, so, se, hD⟩ := ho
  exact useER B F X T hk (Nat.lt_of_lt_of_le hdp (by decide)) N hx hdx U nxdx nxd ndd lo hD (⟨_, .cons 0 .nil, hod⟩ : DkB w od [([99], .val v)]) (fun own ap => rt_delete_b (ap := ap)) (.cons ta .nil) ret
end
section -- Menu
section
open PySem.Calls PyProof.V PySem.Spec
variable {prog : Program} {w : World} {A : Around} {E : Value → Shared → Prop} {s : Shared} {h₀ : Heap} {L l : Addr} {news : List (Addr × Obj)} {Q : Value → Shared → Prop}
theorem menu4 {value slice : PySem.Expr} {k : Int} {u : Tok} {a b c e : List UInt8} {ta tb tc te : Tok} {n : Nat} (N : News h₀ L s.heap news)
    (hm : (l, listOf #[Value.bytes a.toArray ta, Value.bytes b.toArray tb, Value.bytes c.toArray tc, Value.bytes e.toArray te] n) ∈ news) (h0 : 0 ≤ k) (h1 : k < 4)
    (h : ∀ wd tw, (wd = a ∨ wd = b ∨ wd = c ∨ wd = e) → Q (.bytes wd.toArray tw) s)
    (hs : subscripted slice false (.ref l) (.int k u) = operate [.ref l, .int k u] (getItem (.ref l) (.int k u)) := by with_unfolding_all rfl)
    (ht : ∀ r, letTemporaryGo value (.ref l) r = pure () := by intro _; with_unfolding_all rfl) :
    wpAny (model prog w) A (subscriptTail value slice (.ref l) (.int k u)) Q E s := by
  have hL : s.heap.IsList l #[Value.bytes a.toArray ta, Value.bytes b.toArray tb, Value.bytes c.toArray tc, Value.bytes e.toArray te] := ⟨_, (N _ hm).1, rfl, n, rfl⟩
  have go : ∀ (wd : List UInt8) (tw : Tok), [Value.bytes a.toArray ta, Value.bytes b.toArray tb, Value.bytes c.toArray tc, Value.bytes e.toArray te][k.toNat]? = some (.bytes wd.toArray tw) → (wd = a ∨ wd = b ∨ wd = c ∨ wd = e) →
      wpAny (model prog w) A (subscriptTail value slice (.ref l) (.int k u)) Q E s := fun wd tw hx hw =>
    subscriptTail_builtin hL.typeIs slot_list_getitem.lookup (wpAny_getItem_list hL h0 (by omega) (by simpa using hx) (h wd tw hw)) hs ht
  rcases (show k = 0 ∨ k = 1 ∨ k = 2 ∨ k = 3 by omega) with rfl | rfl | rfl | rfl
  · exact go a ta rfl (.inl rfl)
  · exact go b tb rfl (.inr (.inl rfl))
  · exact go c tc rfl (.inr (.inr (.inl rfl)))
  · exact go e te rfl (.inr (.inr (.inr rfl)))
end
end
section -- Cut
section
open PySem.Calls PyProof.V PySem.Spec
variable {M : Model} {A : Around} {E : Value → Shared → Prop} {s : Shared} {h₀ : Heap} {L : Addr} {env : Env} {st : Stmt} {rest : List Stmt} {Q : Flow → Shared → Prop}
theorem cut_any (W : Shared → Prop) (hst : ∀ Q' : Flow → Shared → Prop, (∀ s', W s' → Q' .next s') → (∀ v s', Q (.ret v) s' → Q' (.ret v) s') → wpAny M A (exec st env) Q' E s)
    (hrest : ∀ s', W s' → wpAny M A (execs rest env) Q E s') : wpAny M A (execs (st :: rest) env) Q E s := by
  refine wpAny_execs_cons (hst _ (fun s' hw => hrest s' hw) (fun v s' hq => hq))
theorem fr_same {h : Heap} {m : PySem.Str → Option Value} {y : PySem.Str} {v : Value} (F : Fr h₀ L h m) (e : m y = some v) : Fr h₀ L h (fun z => if z = y then some v else m z) := by
  have em : (fun z => if z = y then some v else m z) = m := by
    funext z
    by_cases hz : z = y
    · rw [if_pos hz, hz, e]
    · rw [if_neg hz]
  rw [em]
  exact F
theorem cut_name {m : PySem.Str → Option Value} {news : List (Addr × Obj)} (y : PySem.Str) (P : Value → Prop) (F : Fr h₀ L s.heap m) (N : News h₀ L s.heap news)
    (hst : ∀ Q' : Flow → Shared → Prop, (∀ h' tk v, P v → Fr h₀ L h' (fun z => if z = y then some v else m z) → News h₀ L h' news → Q' .next { s with heap := h', toks := tk }) → wpAny M A (exec st env) Q' E s)
    (hrest : ∀ h' tk v, P v → Fr h₀ L h' (fun z => if z = y then some v else m z) → News h₀ L h' news → wpAny M A (execs rest env) Q E { s with heap := h', toks := tk }) : wpAny M A (execs (st :: rest) env) Q E s :=
  cut_any (fun s' => ∃ h' tk v, P v ∧ Fr h₀ L h' (fun z => if z = y then some v else m z) ∧ News h₀ L h' news ∧ s' = { s with heap := h', toks := tk })
    (fun Q' h1 _ => hst Q' fun h' tk v hp F' N' => h1 _ ⟨h', tk, v, hp, F', N', rfl⟩)
    (by rintro s' ⟨h', tk, v, hp, F', N', rfl⟩; exact hrest h' tk v hp F' N')
end
section
open PySem.SeqAt
variable {prog : Program} {w : World} {A : Around} {E : Value → Shared → Prop} {s : Shared} {h₀ : Heap} {L l : Addr} {news : List (Addr × Obj)} {Q : Value → Shared → Prop}
theorem in_tup2 {x a b : List UInt8} {t ta tb : Tok} (N : News h₀ L s.heap news) (hm : (l, tupObj #[Value.bytes a.toArray ta, Value.bytes b.toArray tb]) ∈ news) (h : Q (.bool (decide (x = a ∨ x = b))) s) :
    wpAny (model prog w) A (compareOp .In (.bytes x.toArray t) (.ref l)) Q E s := by
  refine in_tupB (vs := [Value.bytes a.toArray ta, Value.bytes b.toArray tb]) (tup_N N hm) ⟨⟨_, _, rfl⟩, ⟨_, _, rfl⟩, trivial⟩ (decide (x = a ∨ x = b)) ?_ h
  have e1 : isB x (Value.bytes a.toArray ta) = decide (x = a) := by simp [isB, eq_comm]
  have e2 : isB x (Value.bytes b.toArray tb) = decide (x = b) := by simp [isB, eq_comm]
  simp [e1, e2]
end
end
section -- ConD5
variable {w : World} {A₀ : Around} {base h₀ : Heap} {outer : List Env} {L a : Addr} {m : Str → Option Value} {news : List (Addr × Obj)} {g : Obj → List (Addr × Obj)} {s : Shared} {Q E : Value → Shared → Prop} {dp un : Nat} {gd : Option (List Code)} {cn : Str} {cs : Scope} {ccd : Value} {cl : List (Str × Addr)} {loose : List Str} {mean : ExcName → Option Value} {mg mb : Str → Option Value}
theorem flush_D {x dx : Addr}
  {d : Addr} {o : Obj} {cr op : Bool} {at_ : Int}
  (B : Below A₀ base outer h₀) (F : Fr h₀ L s.heap m) (X : (hd.heap_1 w.params).In h₀) (T : Top topProg loose mean mg mb h₀) (hk : cs.kind = .function) (hdp : dp < 590) (hun : un < 900)
  (N : News h₀ L s.heap news) (hx : (x, instObj 280 dx) ∈ news) (hdx : (dx, o) ∈ news) (ho : IsD w.params o d cr op at_)
  (ret : ∀ h' tk, Fr h₀ L h' m → News h₀ L h' news → Q .none { s with heap := h', toks := tk }) :
  wpAny (model rw_on0267_01.row.prog w) (ktrTop dp un gd cn cs L a ccd cl outer) (call (.ref 139) [.ref x]) Q E s := by
  (refine IsD.elim ho ?_; clear ho; intro k0 k1 k2 k3 k4 k5 k6 k7 k8 k9 u0 u1 u5 u9 la num pl e9z; subst e9z)
  revert X
  k_fill
  intro X
  k_steps
  all_goals ((rename News h₀ L _ _ => N9); (rename Fr h₀ L _ m => F9); exact ret _ _ F9 N9)
end
section -- CmpL
section
open PySem.SeqAt
variable {prog : Program} {w : World} {A : Around} {E : Value → Shared → Prop} {s : Shared} {h₀ : Heap} {L p q : Addr} {news : List (Addr × Obj)} {Q : Value → Shared → Prop} {vs us : List Value} {n k : Nat}
inductive EqsAt (A : Around) (s : Shared) : List Value → List Value → Prop
  | nil : EqsAt A s [] []
  | cons {v u : Value} {vs us : List Value} {b : Bool} (h : EqAt A s v u b) (hb : b = true) (r : EqsAt A s vs us) : EqsAt A s (v :: vs) (u :: us)
theorem EqsAt.length (h : EqsAt A s vs us) : vs.length = us.length := by
  induction h with
  | nil => rfl
  | cons _ _ _ ih => simp [ih]
theorem EqsAt.pick (h : EqsAt A s vs us) : ∀ j (h1 : j < vs.length) (h2 : j < us.length), EqAt A s vs[j] us[j] true := by
  induction h with
  | nil => intro j h1; exact absurd h1 (by simp)
  | cons h hb _ ih =>
    intro j h1 h2
    cases j with
    | zero => exact hb ▸ h
    | succ j => exact ih j (by simpa using h1) (by simpa using h2)
theorem EqsAt.bs {bs : List (List UInt8)} (h : BsAre vs bs) : ∀ {us : List Value}, BsAre us bs → EqsAt A s vs us := by
  induction h with
  | nil => intro us h'; cases h'; exact .nil
  | cons x t _ ih =>
    intro us h'
    cases h' with
    | cons _ u h' => exact .cons (eqAt_bytes x x t u) (by simp) (ih h')
theorem ne_lists_same (N : News h₀ L s.heap news) (m1 : (p, PySem.W.listOf vs.toArray n) ∈ news) (m2 : (q, PySem.W.listOf us.toArray k) ∈ news) (hu : A.units < cLine) (hE : EqsAt A.in1 s vs us) (h : Q (.bool false) s) : wpAny (model prog w) A (compareOp .NotEq (.ref p) (.ref q)) Q E s := by
  refine RcNeAt.lists (e := fun _ => true) (items := vs.toArray) (items2 := us.toArray) ⟨_, (N _ m1).1, rfl, _, rfl⟩ ⟨_, (N _ m2).1, rfl, _, rfl⟩ (by simp [hE.length]) hu (fun j h1 h2 => ?_) prog w E Q ?_
  · simpa using hE.pick j (by simpa using h1) (by simpa using h2)
  · have e : (List.range vs.toArray.size).all (fun _ => true) = true := by simp
    rw [e]
    exact h
theorem eq_lists_same (N : News h₀ L s.heap news) (m1 : (p, PySem.W.listOf vs.toArray n) ∈ news) (m2 : (q, PySem.W.listOf us.toArray k) ∈ news) (hu : A.units < cLine) (hE : EqsAt A.in1 s vs us) (h : Q (.bool true) s) : wpAny (model prog w) A (compareOp .Eq (.ref p) (.ref q)) Q E s := by
  have r : RcAt A s (.ref p) (.ref q) ((List.range vs.toArray.size).all (fun _ => true)) :=
    RcAt.lists (items := vs.toArray) (items2 := us.toArray) ⟨_, (N _ m1).1, rfl, _, rfl⟩ ⟨_, (N _ m2).1, rfl, _, rfl⟩ (by simp [hE.length]) hu (fun j h1 h2 => by simpa using hE.pick j (by simpa using h1) (by simpa using h2))
  have e : (List.range vs.toArray.size).all (fun _ => true) = true := by simp
  rw [e] at r
  exact r prog w E Q h
theorem eq_dict1 {d e : Addr} {od oe : Obj} {c x y : List UInt8} {t u : Tok} (N : News h₀ L s.heap news) (m1 : (d, od) ∈ news) (m2 : (e, oe) ∈ news) (h1 : od.IsDictOf (bytesKind prog w) [(c, .bytes x.toArray t)]) (h2 : oe.IsDictOf (bytesKind prog w) [(c, .bytes y.toArray u)])
    (l1 : (d == sysModules) = false) (l2 : (e == sysModules) = false) (hu : A.units < cLine) (h : Q (.bool (decide (x = y))) s) : wpAny (model prog w) A (compareOp .Eq (.ref d) (.ref e)) Q E s := by
  refine keq_pairs (knd := bytesKind prog w) N m1 m2 h1 h2 l1 l2 rfl hu (KeqHits.hit (y := .bytes y.toArray u) (by simp [valueAt]) (eqAt_bytes x y t u) KeqHits.nil) ?_
  rw [Bool.and_true]
  exact h
end
end
section -- PS3
section
open PySem.W PyProof PyProof.V PySem.Calls PySem.Spec
variable {prog : Program} {w : World} {M : Model} {A : Around} {env : Env} {g : Heap} {L a : Addr} {m : Str → Option Value} {l : List (Str × Value)} {nw : List (Addr × Obj)} {cn : Str} {cs : Scope} {ccd : Value} {cl : List (Str × Addr)}
  {x y z : Str} {pos pos1 pos2 pos3 pos4 : Pos} {v : Value} {e e1 e2 e3 : Expr} {x1 x2 x3 : AV} {c : Addr} {o : Obj} {q q1 q2 : Bool} {cop : CmpOp} {s : Shared} {hh : Heap} {gn : Array GenState} {dr : Drawn} {tk0 : Nat} {os : OsState} {Q : Flow → Shared → Prop} {QV E : Value → Shared → Prop} {rest body orelse : List Stmt} {t : Tok} {n k i j : Int}
theorem PE.ditem {d : Addr} {key : List UInt8} {kvs : List (List UInt8 × Value)} (p1 : PE (model prog w) A env g L m nw e1 (.val (.ref d))) (p2 : PE (model prog w) A env g L m nw e2 (.bytes key)) (hd : (d, o) ∈ nw) (ho : o.IsDictOf (bytesKind prog w) kvs) (hl : valueAt kvs key = some v)
    (hs : ∀ t, subscripted e2 false (.ref d) (.bytes key.toArray t) = operate [.ref d, .bytes key.toArray t] (getItem (.ref d) (.bytes key.toArray t)) := by intro _; with_unfolding_all rfl)
    (ht : ∀ r, letTemporaryGo e1 (.ref d) r = pure () := by intro _; with_unfolding_all rfl) :
    PE (model prog w) A env g L m nw (.Subscript e1 e2 pos) (.val v) := .mk fun s Q E F N H =>
  Subscript_ (p1.run s _ E F N fun h tk t F1 N1 => p2.run _ _ E F1 N1 fun h2 tk2 t2 F2 N2 => kda_item (knd := bytesKind prog w) N2 hd ho (bk_is _ _ _ _) hl (H h2 (tk2 + 1) default F2 N2) (hs t2) ht)
theorem PE.ditemB {d : Addr} {key b : List UInt8} {kvs : List (List UInt8 × Value)} (p1 : PE (model prog w) A env g L m nw e1 (.val (.ref d))) (p2 : PE (model prog w) A env g L m nw e2 (.bytes key)) (hd : (d, o) ∈ nw) (ho : o.IsDictOf (bytesKind prog w) kvs) (hl : valueAt kvs key = some (.bytes b.toArray t))
    (hs : ∀ t, subscripted e2 false (.ref d) (.bytes key.toArray t) = operate [.ref d, .bytes key.toArray t] (getItem (.ref d) (.bytes key.toArray t)) := by intro _; with_unfolding_all rfl)
    (ht : ∀ r, letTemporaryGo e1 (.ref d) r = pure () := by intro _; with_unfolding_all rfl) : PE (model prog w) A env g L m nw (.Subscript e1 e2 pos) (.bytes b) := PE.toB (PE.ditem p1 p2 hd ho hl hs ht)
theorem St.asg2C {k1 k2 : Nat} {gt : Obj → List (Addr × Obj)} {v₀ : Option Value} (F : Fr g L hh (mp l m)) (N : News g L hh nw) (p1 : PE (model prog w) A (envX cn cs L a ccd cl) g L (mp l m) nw e1 x1) (p2 : PE (model prog w) A (envX cn cs L a ccd cl) g L (mp l m) nw e2 x2) (U : UpdF c o nw gt) (hd : o.data = .cell v₀)
    (H : ∀ h tk t t' o', Fr g L h (mp ((x, x1.v t) :: l) m) → News g L h (gt o') → o'.data = .cell (some (x2.v t')) → wpAny (model prog w) A (execs rest (envX cn cs L a ccd cl)) Q E (Shared.mk h gn dr tk os))
    (hc : cl.lookup y = some c) (hA : A.handled = none := by rfl)
    (hs1 : swapsWithSole [Expr.Tuple [.Name x pos1, .Name y pos2] k1 pos3] (.Tuple [e1, e2] k2 pos4) pos.line (envX cn cs L a ccd cl) = pure false := by rfl) (hs2 : swappedStores [Expr.Tuple [.Name x pos1, .Name y pos2] k1 pos3] (.Tuple [e1, e2] k2 pos4) (envX cn cs L a ccd cl) = pure none := by rfl)
    (ha : starEach [e1, e2] (envX cn cs L a ccd cl) = (false, eval e1 (envX cn cs L a ccd cl)) :: starEach [e2] (envX cn cs L a ccd cl) := by rfl) (hb : starEach [e2] (envX cn cs L a ccd cl) = (false, eval e2 (envX cn cs L a ccd cl)) :: starEach [] (envX cn cs L a ccd cl) := by rfl)
    (hl : (assignEach [.Name x pos1, .Name y pos2] (envX cn cs L a ccd cl)).length = 2 := by rfl) (hf : List.findIdx? (fun x => x.1) (assignEach [.Name x pos1, .Name y pos2] (envX cn cs L a ccd cl)) = none := by rfl)
    (hm : List.map (fun x => x.2) (assignEach [.Name x pos1, .Name y pos2] (envX cn cs L a ccd cl)) = [assign (.Name x pos1) (envX cn cs L a ccd cl), assign (.Name y pos2) (envX cn cs L a ccd cl)] := by rfl)
    (hk : cs.kind = .function := by rfl) (hx : (envX cn cs L a ccd cl).kindOf x = some .local := by rfl) (hy : (envX cn cs L a ccd cl).kindOf y = some .cell := by rfl) :
    wpAny (model prog w) A (execs (.Assign [.Tuple [.Name x pos1, .Name y pos2] k1 pos3] (.Tuple [e1, e2] k2 pos4) pos :: rest) (envX cn cs L a ccd cl)) Q E (Shared.mk hh gn dr tk0 os) := by
  refine wpAny_execs_cons (Assign_Tuple (PyProof.Rows.Tuple_ (args_cons (p1.run _ _ E F N fun h tk t F1 N1 => args_cons (p2.run _ _ E F1 N1 fun h2 tk2 t2 F2 N2 => args_nil ?_) hb) ha)) hs1 hs2)
  refine kup_newTuple F2 N2 (fun D h3 F3 N3 lt => ?_) (by rw [sizeLine_eq]; exact Nat.le_of_ble_eq_true rfl)
  refine unpackN_ (items := #[x1.v t, x2.v t2]) F3 N3 (News.isTup N3 (.head _)) hA hl hf (fun h4 F4 N4 => ?_)
  rw [hm]
  refine assignInOrder_cons (PyProof.Rows.assign_Name (stL F4 (newsTail N4) (fun h5 tk5 F5 N5 => ?_) hk hx))
  refine assignInOrder_cons (PyProof.Rows.assign_Name (stC F5 N5 U hd (fun h6 tk6 o6 F6 N6 d6 => ?_) hc hk hy))
  exact assignInOrder_nil (H h6 tk6 t t2 o6 F6 N6 d6)
theorem St.nilC (H : wpAny M A (execs rest env) Q E s) : wpAny M A (execs [] env) (Kn M A env rest Q E) E s := wpAny_execs_nil H
theorem St.ifFc (F : Fr g L hh m) (N : News g L hh nw) (p : PT M A env g L m nw e false)
    (H : ∀ h tk, Fr g L h m → News g L h nw → wpAny M A (execs orelse env) (Kn M A env rest Q E) E (Shared.mk h gn dr tk os)) : wpAny M A (execs (.If e body orelse pos :: rest) env) Q E (Shared.mk hh gn dr tk0 os) :=
  wpAny_execs_cons (wpAny_If (p.run _ _ E _ F N (fun h tk F1 N1 => by rw [if_neg (by decide)]; exact H h tk F1 N1) rfl))
theorem St.ifOP (F : Fr g L hh m) (N : News g L hh nw) (p : PT M A env g L m nw e false)
    (H : ∀ h tk, Fr g L h m → News g L h nw → wpAny M A (eval e1 env) (fun a s1 => CmpR M A env cop a e2 (fun b s' => IfR M A env body orelse rest Q E b s') E s1) E (Shared.mk h gn dr tk os)) (hb : behindInMarks cop e2 = false := by rfl) :
    wpAny M A (execs (.If (.BoolOp .Or [e, .Compare e1 [cop] [e2] pos2] pos3) body orelse pos :: rest) env) Q E (Shared.mk hh gn dr tk0 os) := by
  refine St.ifI (isTrue_or (p.run _ _ E _ F N (fun h tk F1 N1 => ?_) rfl))
  rw [if_neg (by decide)]
  refine isTrue_or (wpAny_mono (wpAny_isTrue_Compare1 (H h tk F1 N1) hb) (fun b s' k => ?_) fun _ _ k => k)
  cases b with
  | true => rw [if_pos rfl]; exact k
  | false => rw [if_neg (by decide)]; exact isTrue_or_nil k
theorem CmpR.list5 {Q : Bool → Shared → Prop} {e4 e5 : Expr} {D : Addr} {a1 a2 a3 : List UInt8} {n4 : Int} {t1 t2 t3 t4 : Tok} {k : Nat} (F : Fr g L hh m) (N : News g L hh nw) (hD : (D, listOf (List.toArray [Value.bytes a1.toArray t1, .bytes a2.toArray t2, .bytes a3.toArray t3, .int n4 t4, .none]) k) ∈ nw)
    (p1 : PE (model prog w) A env g L m nw e1 (.bytes a1)) (p2 : PE (model prog w) A env g L m nw e2 (.bytes a2)) (p3 : PE (model prog w) A env g L m nw e3 (.bytes a3)) (p4 : PE (model prog w) A env g L m nw e4 (.int n4)) (p5 : PE (model prog w) A env g L m nw e5 (.val .none)) (hu : A.units < cLine)
    (H : ∀ h tk, Fr g L h m → News g L h nw → Q false (Shared.mk h gn dr tk os))
    (h1 : starEach [e1, e2, e3, e4, e5] env = (false, eval e1 env) :: starEach [e2, e3, e4, e5] env := by rfl) (h2 : starEach [e2, e3, e4, e5] env = (false, eval e2 env) :: starEach [e3, e4, e5] env := by rfl) (h3 : starEach [e3, e4, e5] env = (false, eval e3 env) :: starEach [e4, e5] env := by rfl)
    (h4 : starEach [e4, e5] env = (false, eval e4 env) :: starEach [e5] env := by rfl) (h5 : starEach [e5] env = (false, eval e5 env) :: starEach [] env := by rfl) : CmpR (model prog w) A env .NotEq (.ref D) (.List [e1, e2, e3, e4, e5] pos) Q E (Shared.mk hh gn dr tk0 os) := by
  refine PyProof.Rows.List_ (args_cons (p1.run _ _ E F N fun h tk u1 F1 N1 => args_cons (p2.run _ _ E F1 N1 fun h tk u2 F2 N2 => args_cons (p3.run _ _ E F2 N2 fun h tk u3 F3 N3 => args_cons (p4.run _ _ E F3 N3 fun h tk u4 F4 N4 => args_cons (p5.run _ _ E F4 N4 fun h tk u5 F5 N5 => args_nil ?_) h5) h4) h3) h2) h1)
  refine newList_K F5 N5 (fun D2 h6 F6 N6 lt => ?_) (by rw [sizeLine_eq]; exact Nat.le_of_ble_eq_true rfl)
  refine ne_lists_same N6 (.tail _ hD) (.head _) hu ?_ (wpAny_truthy_bool (H h6 _ F6 fun p hp => N6 p (.tail _ hp)))
  refine EqsAt.cons (eqAt_bytes _ _ _ _) (decide_eq_true rfl) ?_
  refine EqsAt.cons (eqAt_bytes _ _ _ _) (decide_eq_true rfl) ?_
  refine EqsAt.cons (eqAt_bytes _ _ _ _) (decide_eq_true rfl) ?_
  refine EqsAt.cons (PySem.SeqAt.EqAt.int_int _ _ _ _) (beq_self_eq_true _) ?_
  exact EqsAt.cons (PySem.SeqAt.EqAt.same _) rfl EqsAt.nil
theorem CmpV.dict1 {d : Addr} {od : Obj} {c b : List UInt8} {t1 t2 : Tok} {kk : Nat} {p : Program} {loose : List Str} {mean : ExcName → Option Value} {mg mb : Str → Option Value} (F : Fr g L hh m) (N : News g L hh nw) (T : Top p loose mean mg mb g) (hD : (d, od) ∈ nw) (ho : od.IsDictOf (bytesKind prog w) [(c, .bytes b.toArray t1)]) (lo : (d == sysModules) = false)
    (hv : m x = some (.bytes b.toArray t2)) (hu : A.units < cLine)
    (H : ∀ h tk, Fr g L h m → News g L h nw → QV (.bool true) (Shared.mk h gn dr tk os)) (hk : cs.kind = .function := by rfl) (hx : (envX cn cs L a ccd cl).kindOf x = some .local := by rfl) (hd : (x == ("__debug__" : Str)) = false := by decide) :
    CmpV (model prog w) A (envX cn cs L a ccd cl) .Eq (.ref d) (.Dict [some (.Constant (.bytes c) kk pos1)] [.Name x pos2] pos) QV E (Shared.mk hh gn dr tk0 os) := by
  refine Dict_made (knd := bytesKind prog w) F rfl rfl (by simp) (by simp) (fun F1 => ?_)
  refine pairTrees_cons_walk (Constant_bytes (nameX_L F1 hv (pairTrees_nil_walk ?_) hk hx hd))
  refine made_bytes [(c, _)] F N (Top.nolimit T) ⟨bk_is _ _ _ _, rfl, trivial⟩ (by simp) (fun h' o' F' N' lt lo' hd' => ?_)
  refine eq_dict1 N' (.tail _ hD) (.head _) ho hd' lo lo' hu ?_
  rw [decide_eq_true rfl]
  exact H h' _ F' fun p hp => N' p (.tail _ hp)
variable {K : Frag} {p : Program} {loose : List Str} {mean : ExcName → Option Value} {mg mb : Str → Option Value} {f ix C dx : Addr} {name : Str}
theorem meth2 (F : Fr g L hh m) (N : News g L hh nw) (X : K.In g) (pe : PE (model prog w) A env g L m nw e (.val (.ref ix))) (p1 : PE (model prog w) A env g L m nw e1 x1) (p2 : PE (model prog w) A env g L m nw e2 x2) (hi : (ix, instObj C dx) ∈ nw) (hd : (dx, o) ∈ nw) (ho : NoM o name)
    (h1 : plainGet K C name = true) (h2 : findIn K (.ref C) name = some (some (.ref f))) (h3 : isFn K (.ref f) = true) (h4 : keepIn K (.ref f) = true)
    (H : ∀ h tk t t', Fr g L h m → News g L h nw → wpAny (model prog w) A (call (.ref f) [.ref ix, x1.v t, x2.v t']) QV E (Shared.mk h gn dr tk os)) {pl : Sem Bool}
    (he : eval (.Call (.Attribute e name pos1) [e1, e2] [] pos) env = (do
      let ov ← eval e env
      standAt pos1.atName
      let (f, first) ← holding [ov] (getMethod ov name pl)
      callWith pos f first (backTo pos (starEach [e1, e2] env)) []) := by rfl)
    (ha : starEach [e1, e2] env = (false, eval e1 env) :: starEach [e2] env := by rfl) (hb : starEach [e2] env = (false, eval e2 env) :: starEach [] env := by rfl) (hp : (backTo pos (starEach [e2] env)).any (·.1) = false := by rfl) :
    wpAny (model prog w) A (eval (.Call (.Attribute e name pos1) [e1, e2] [] pos) env) QV E (Shared.mk hh gn dr tk0 os) := by
  obtain ⟨es, n, rfl, hg⟩ := ho
  exact MethodCall_ (pe.run _ _ E F N fun h tk t F1 N1 => method_inst F1 X (InstAt.of_news N1 hi hd) h1 h2 h3 hg (callWith_K X h4 (args_cons (p1.run _ _ E F1 N1 fun h2 tk2 t2 F2 N2 => args_cons (p2.run _ _ E F2 N2 fun h3 tk3 t3 F3 N3 => args_nil ⟨X.keeps F3.keep, H h3 tk3 t2 t3 F3 N3⟩) hb) ha) ha hp)) he
theorem list2I (H : wpAny M A (eval e1 env) (fun v1 s1 => wpAny M A (eval e2 env) (fun v2 s2 => wpAny M A (newList [v1, v2]) QV E s2) E s1) E s)
    (ha : starEach [e1, e2] env = (false, eval e1 env) :: starEach [e2] env := by rfl) (hb : starEach [e2] env = (false, eval e2 env) :: starEach [] env := by rfl) : wpAny M A (eval (.List [e1, e2] pos) env) QV E s :=
  PyProof.Rows.List_ (args_cons (wpAny_mono H (fun v1 s1 h => args_cons (wpAny_mono h (fun v2 s2 h => args_nil h) fun _ _ h => h) hb) fun _ _ h => h) ha)
theorem list3I (H : wpAny M A (eval e1 env) (fun v1 s1 => wpAny M A (eval e2 env) (fun v2 s2 => wpAny M A (eval e3 env) (fun v3 s3 => wpAny M A (newList [v1, v2, v3]) QV E s3) E s2) E s1) E s)
    (ha : starEach [e1, e2, e3] env = (false, eval e1 env) :: starEach [e2, e3] env := by rfl) (hb : starEach [e2, e3] env = (false, eval e2 env) :: starEach [e3] env := by rfl) (hc : starEach [e3] env = (false, eval e3 env) :: starEach [] env := by rfl) : wpAny M A (eval (.List [e1, e2, e3] pos) env) QV E s :=
  PyProof.Rows.List_ (args_cons (wpAny_mono H (fun v1 s1 h => args_cons (wpAny_mono h (fun v2 s2 h => args_cons (wpAny_mono h (fun v3 s3 h => args_nil h) fun _ _ h => h) hc) fun _ _ h => h) hb) fun _ _ h => h) ha)
end
section
open PySem.W PyProof PyProof.V PySem.Calls PySem.Spec
theorem refusedLam {w : World} {A₀ : Around} {base h₀ : Heap} {outer : List Env} {L a P cA : Addr} {m : Str → Option Value} {gt newsR : Obj → List (Addr × Obj)} {hh : Heap} {gn : Array GenState} {dr : Drawn} {tk0 : Nat} {os : OsState} {QV E : Value → Shared → Prop}
    {dp un : Nat} {gd : Option (List Code)} {cn : Str} {cs : Scope} {ccd : Value} {cl : List (Str × Addr)} {loose : List Str} {mean : ExcName → Option Value} {mg mb : Str → Option Value} {v : Array UInt8} {ps : Array Value} {clos : List (Str × Addr)} {params : Arguments} {lb : Expr} {sc : Scope} {lpos pos pos1 : Pos}
    (B : Below A₀ base outer h₀) (F : Fr h₀ L hh m) (X : (hd.heap_1 w.params).In h₀) (T : Top topProg loose mean mg mb h₀) (hk : cs.kind = .function) (hdp : dp < 600) (hun : un < 1000)
    (XB : (hd.heap_1 w.params).In base) (TB : Top topProg loose mean mg mb base) (D : KtsDicts (outer.filterMap (·.frame)) h₀)
    (N : News h₀ L hh (gt (tabObj ps))) (CD : CodeHd base cA P) (hcd : ccd = .ref cA) (U : UpdF P (tabObj ps) (gt (tabObj ps)) gt) (ht : TriplesOk ps.toList) (hc : codeAmong lpos ps.toList = none)
    (h1 : nsIn (hd.heap_1 w.params) mainGlobals (Str.ofString "_law_refused") = some (some (.ref 423))) (h4 : keepIn (hd.heap_1 w.params) (.ref 423) = true)
    (hbody : ∀ (fl c' : Addr) (oc : Obj) (ctv : Value) (L8 L9 : Addr) (g9 : Heap) (s9 : Shared) (QV E9 : Value → Shared → Prop), (∀ q ∈ gt (tabObj ps), q.1 < c') → (∀ q ∈ gt (tabObj ps), q.1 < fl) → Below (refA dp un gd (envX cn cs L a ccd cl) outer L8) base (refEnv L8 :: envX cn cs L a ccd cl :: outer) g9 → Fr g9 L9 s9.heap (fun y => List.lookup y []) → (hd.heap_1 w.params).In g9 →
      News g9 L9 s9.heap ((fl, kla_obj (Str.ofString "<lambda>") (cn ++ Str.ofString ".<locals>." ++ Str.ofString "<lambda>") params lb sc clos ((mg (Str.ofString "__name__")).getD .none) c' ctv) :: (c', oc) :: gt (tabObj (ps ++ #[rawInt ↑lpos.line, rawInt ↑lpos.col, .ref c']))) → Top topProg loose mean mg mb g9 →
      (∀ (G : Heap) (e de : Addr) (hsh : Int) (k : Tok) (n : Nat) (tk tk' : Tok) (h' : Heap), Fr g9 L9 G (fun y => List.lookup y []) → RaisedE base G (envX (cn ++ Str.ofString ".<locals>." ++ Str.ofString "<lambda>") sc L9 fl (.ref c') clos :: refEnv L8 :: envX cn cs L a ccd cl :: outer) e de ((de, toldD hsh k n v tk) :: newsR (tabObj (ps ++ #[rawInt ↑lpos.line, rawInt ↑lpos.col, .ref c']))) h' → G.UpToSlots h' → E9 (.ref e) { s9 with heap := h', toks := tk' }) →
      wpAny (model rw_on0267_01.row.prog w) ((refA dp un gd (envX cn cs L a ccd cl) outer L8).deeper (envX (cn ++ Str.ofString ".<locals>." ++ Str.ofString "<lambda>") sc L9 fl (.ref c') clos)) (eval lb (envX (cn ++ Str.ofString ".<locals>." ++ Str.ofString "<lambda>") sc L9 fl (.ref c') clos)) QV E9 s9)
    (ret : ∀ c' h₀' h' tk tkv, KtsTurn (outer.filterMap (·.frame)) h₀ h₀' → Fr h₀' L h' m → News h₀' L h' (newsR (tabObj (ps ++ #[rawInt ↑lpos.line, rawInt ↑lpos.col, .ref c']))) → Below A₀ base outer h₀' → (hd.heap_1 w.params).In h₀' → Top topProg loose mean mg mb h₀' → KtsDicts (outer.filterMap (·.frame)) h₀' → QV (.bytes v tkv) (Shared.mk h' gn dr tk os))
    (hb : ∀ (c' : Addr) (ctv : Value) (s : Shared), BindsTo s (kdv_fn (Str.ofString "<lambda>") (cn ++ Str.ofString ".<locals>." ++ Str.ofString "<lambda>") params (.expr lb) sc clos .none .none ((mg (Str.ofString "__name__")).getD .none) (.ref c') ctv) ⟨[], []⟩ [] := by intro _ _ _; exact BindsTo.of_eq rfl)
    (hd1 : defaultsOf params (envX cn cs L a ccd cl) = ([], []) := by rfl) (hcl : closureFor sc (envX cn cs L a ccd cl) = pure clos := by rfl)
    (he : eval (.Call (.Name (Str.ofString "_law_refused") pos1) [.Lambda params lb sc lpos] [] pos) (envX cn cs L a ccd cl) = (do
        let f1 ← eval (.Name (Str.ofString "_law_refused") pos1) (envX cn cs L a ccd cl)
        callWith pos f1 [] (backTo pos (starEach [.Lambda params lb sc lpos] (envX cn cs L a ccd cl))) (backToKw pos (keywordEach [] (envX cn cs L a ccd cl)))) := by rfl)
    (ha : starEach [.Lambda params lb sc lpos] (envX cn cs L a ccd cl) = (false, eval (.Lambda params lb sc lpos) (envX cn cs L a ccd cl)) :: starEach [] (envX cn cs L a ccd cl) := by rfl)
    (hx : (envX cn cs L a ccd cl).kindOf (Str.ofString "_law_refused") = some .globalImplicit := by rfl) (hdd : (Str.ofString "_law_refused" == ("__debug__" : Str)) = false := by decide)
    (s1 : sc.isCoroutine = false := by rfl) (s2 : sc.isGenerator = false := by rfl) (s3 : sc.kind = .function := by rfl) (s4 : ∀ x ∈ sc.names, x.2 ≠ .cell := by decide) :
    wpAny (model rw_on0267_01.row.prog w) (ktrTop dp un gd cn cs L a ccd cl outer) (eval (.Call (.Name (Str.ofString "_law_refused") pos1) [.Lambda params lb sc lpos] [] pos) (envX cn cs L a ccd cl)) QV E (Shared.mk hh gn dr tk0 os) := by
  refine fun1I F X (topRead_of T) h1 h4 ?_ he ha hk hx hdd
  refine lam_any F N T (CodeHd.keeps CD (Below.stays B)) hcd U ht (.inl hc) (fun fl c' oc vs t ctv ps' h tk F1 N1 d1 d2 lt hps => ?_) hd1 hcl
  refine ⟨X.keeps F1.keep, ?_⟩
  rcases hps with ⟨rfl, _, lc⟩ | ⟨_, q, _⟩
  · refine refused_raise B F1 X T hk hdp hun XB TB D N1 (refuses_lam (.head _) (.tail _ (.head _)) d1 d2 (Nat.lt_trans hdp (Nat.le_of_ble_eq_true rfl)) (hb c' ctv) (fun L8 L9 g9 s9 QV E9 B9 F9 X9 N9 T9 RE => hbody fl c' oc ctv L8 L9 g9 s9 QV E9 lc lt B9 F9 X9 N9 T9 RE) s1 s2 s3 s4) (fun h₀' h' tk tkv KT F' N' B' X' T' D' => ret c' h₀' h' tk tkv KT F' N' B' X' T' D')
  · rw [hc] at q; cases q
theorem noM_RW {P : Params} {o : Obj} {oc : List UInt8} {at_ : Int} {hl ib : Bool} (h : IsR P o oc at_ hl ib) : NoM o (Str.ofString "write") := by
  refine h.elim ?_
  intros
  rename o = _ => h9
  subst h9
  exact ⟨_, _, rfl, by k_get⟩
theorem subL {a b c : Addr × Obj} {l : List (Addr × Obj)} : ∀ p ∈ a :: l, p ∈ a :: b :: c :: l := fun p hp => by
  rcases List.mem_cons.mp hp with rfl | hp
  · exact .head _
  · exact .tail _ (.tail _ (.tail _ hp))
theorem noM_D {P : Params} {o : Obj} {d : Addr} {cr op : Bool} {at_ : Int} {name : Str} (h : IsD P o d cr op at_) (e : name ∈ [Str.ofString "read", Str.ofString "write", Str.ofString "position", Str.ofString "set_position", Str.ofString "close", Str.ofString "flush"]) : NoM o name := by
  refine h.elim ?_
  intros
  rename o = _ => h9
  subst h9
  simp only [List.mem_cons, List.not_mem_nil, or_false] at e
  rcases e with rfl | rfl | rfl | rfl | rfl | rfl
  all_goals exact ⟨_, _, rfl, by k_get⟩
theorem noM_FT {P : Params} {o : Obj} {d : Addr} {n : Int} {name : Str} (h : IsFT P o d n) (e : name ∈ [Str.ofString "open", Str.ofString "size_of", Str.ofString "rename", Str.ofString "delete"]) : NoM o name := by
  refine h.elim ?_
  intros
  rename o = _ => h9
  subst h9
  simp only [List.mem_cons, List.not_mem_nil, or_false] at e
  rcases e with rfl | rfl | rfl | rfl
  all_goals exact ⟨_, _, rfl, by k_get⟩
end
end
section -- ConDR
variable {w : World} {A₀ : Around} {base h₀ : Heap} {outer : List Env} {L a : Addr} {m : Str → Option Value} {news : List (Addr × Obj)} {g : Obj → List (Addr × Obj)} {s : Shared} {Q E : Value → Shared → Prop} {dp un : Nat} {gd : Option (List Code)} {cn : Str} {cs : Scope} {ccd : Value} {cl : List (Str × Addr)} {loose : List Str} {mean : ExcName → Option Value} {mg mb : Str → Option Value}
theorem kw_40 : True := by
  w_top off
  k_with "call ref" => (k_here; (first | (with_reducible show wpAny _ _ (call (Value.ref 132) [Value.ref _, Value.bytes (List.toArray _) _]) _ _ _) | (with_reducible show wpAny _ _ (call (Value.ref 132, [Value.ref _]).fst ((Value.ref 132, [Value.ref _]).snd ++ [Value.bytes (List.toArray _) _])) _ _ _)); (k_dflt (refine' write_D ?B ?F ?X ?T ?hk ?hd ?hu ?N ?hx ?U ?V ?ho ?hod ?lo ?h0 ?h1 ?hz ?n1 ?n2 ?n3 ?hs (fun o9 od9 t9 h' tk' R9 O9 F' N' => ?_); (case N => k_asm); (case F => k_asm); (case B => k_asm); (case X => k_asm); (case T => k_asm); (case hk => first | exact rfl | assumption); (case hd => walk_at "hd9"); (case hu => walk_at "hu9"); (case hx => k_mem); (case U => k_updF); (case ho => assumption); (case V => (intro o'; k_updF)); (case hod => assumption); (case lo => assumption); (case h0 => omega); (case h1 => kba_size); (case hz => kba_size); (case n1 => first | assumption | k_ne); (case n2 => first | assumption | k_ne); (case n3 => first | assumption | k_ne); (case hs => kba_size); (all_goals (have R9c : IsD _ _ _ _ _ _ := R9; ((refine IsD.elim R9c ?_; clear R9c; intro _ _ _ _ _ _ _ _ _ _ _ _ _ _ _ _ _ e9o)); (subst e9o))))); (all_goals (try (exfalso; omega))); (all_goals ((try dsimp only at F'); (try dsimp only at N'); (try dsimp only))); (all_goals (try k_sweep)))
  k_with "call ref" => (k_here; (first | (with_reducible show wpAny _ _ (call (Value.ref 277) [Value.ref _, Value.int _ _]) _ _ _) | (with_reducible show wpAny _ _ (call (Value.ref 277, [Value.ref _]).fst ((Value.ref 277, [Value.ref _]).snd ++ [Value.int _ _])) _ _ _)); (k_dflt (refine' setpos_D ?B ?F ?X ?T ?hk ?hd ?hu ?N ?hx ?U ?V ?ho ?hod ?lo ?h0 ?h1 ?hz ?n1 ?n2 ?n3 ?hp0 ?hp1 (fun o9 od9 t9 h' tk' R9 O9 F' N' => ?_); (case N => k_asm); (case F => k_asm); (case B => k_asm); (case X => k_asm); (case T => k_asm); (case hk => first | exact rfl | assumption); (case hd => walk_at "hd9"); (case hu => walk_at "hu9"); (case hx => k_mem); (case U => k_updF); (case ho => assumption); (case V => (intro o'; k_updF)); (case hod => assumption); (case lo => assumption); (case h0 => omega); (case h1 => kba_size); (case hz => kba_size); (case n1 => first | assumption | k_ne); (case n2 => first | assumption | k_ne); (case n3 => first | assumption | k_ne); (case hp0 => omega); (case hp1 => omega); (all_goals (have R9c : IsD _ _ _ _ _ _ := R9; ((refine IsD.elim R9c ?_; clear R9c; intro _ _ _ _ _ _ _ _ _ _ _ _ _ _ _ _ _ e9o)); (subst e9o))))); (all_goals (try (exfalso; omega))); (all_goals ((try dsimp only at F'); (try dsimp only at N'); (try dsimp only))); (all_goals (try k_sweep)))
  k_with "call ref" => (k_here; (first | (with_reducible show wpAny _ _ (call (Value.ref 270) [Value.ref _]) _ _ _) | (with_reducible show wpAny _ _ (call (Value.ref 270, [Value.ref _]).fst ((Value.ref 270, [Value.ref _]).snd ++ [])) _ _ _)); (k_dflt (refine' pos_D ?B ?F ?X ?T ?hk ?hd ?hu ?N ?hx ?U ?V ?ho ?hod ?lo ?h0 ?h1 ?hz ?n1 ?n2 ?n3 (fun o9 od9 t9 ti9 h' tk' R9 O9 F' N' => ?_); (case N => k_asm); (case F => k_asm); (case B => k_asm); (case X => k_asm); (case T => k_asm); (case hk => first | exact rfl | assumption); (case hd => walk_at "hd9"); (case hu => walk_at "hu9"); (case hx => k_mem); (case U => k_updF); (case ho => assumption); (case V => (intro o'; k_updF)); (case hod => assumption); (case lo => assumption); (case h0 => omega); (case h1 => kba_size); (case hz => kba_size); (case n1 => first | assumption | k_ne); (case n2 => first | assumption | k_ne); (case n3 => first | assumption | k_ne); (all_goals (have R9c : IsD _ _ _ _ _ _ := R9; ((refine IsD.elim R9c ?_; clear R9c; intro _ _ _ _ _ _ _ _ _ _ _ _ _ _ _ _ _ e9o)); (subst e9o))))); (all_goals (try (exfalso; omega))); (all_goals ((try dsimp only at F'); (try dsimp only at N'); (try dsimp only))); (all_goals (try k_sweep)))
  k_with "call ref" => (k_here; (first | (with_reducible show wpAny _ _ (call (Value.ref 153) [Value.ref _]) _ _ _) | (with_reducible show wpAny _ _ (call (Value.ref 153, [Value.ref _]).fst ((Value.ref 153, [Value.ref _]).snd ++ [])) _ _ _)); (k_dflt (refine' close_D ?B ?F ?X ?T ?hk ?hd ?hu ?N ?hx ?U ?V ?ho ?hod ?lo ?h0 ?h1 ?hz ?n1 ?n2 ?n3 (fun o9 od9 t9 h' tk' R9 O9 F' N' => ?_); (case N => k_asm); (case F => k_asm); (case B => k_asm); (case X => k_asm); (case T => k_asm); (case hk => first | exact rfl | assumption); (case hd => walk_at "hd9"); (case hu => walk_at "hu9"); (case hx => k_mem); (case U => k_updF); (case ho => assumption); (case V => (intro o'; k_updF)); (case hod => assumption); (case lo => assumption); (case h0 => omega); (case h1 => kba_size); (case hz => kba_size); (case n1 => first | assumption | k_ne); (case n2 => first | assumption | k_ne); (case n3 => first | assumption | k_ne); (all_goals (have R9c : IsD _ _ _ _ _ _ := R9; ((refine IsD.elim R9c ?_; clear R9c; intro _ _ _ _ _ _ _ _ _ _ _ _ _ _ _ _ _ e9o)); (subst e9o))))); (all_goals (try (exfalso; omega))); (all_goals ((try dsimp only at F'); (try dsimp only at N'); (try dsimp only))); (all_goals (try k_sweep)))
  k_with "call ref" => (k_here; (first | (with_reducible show wpAny _ _ (call (Value.ref 118) [Value.ref _, Value.int _ _]) _ _ _) | (with_reducible show wpAny _ _ (call (Value.ref 118, [Value.ref _]).fst ((Value.ref 118, [Value.ref _]).snd ++ [Value.int _ _])) _ _ _)); (k_dflt (refine' read_D ?B ?F ?X ?T ?hk ?hd ?hu ?N ?hx ?U ?V ?ho ?hod ?lo ?h0 ?h1 ?hz ?n1 ?n2 ?n3 ?hm0 ?hm1 (fun o9 od9 t9 ti9 h' tk' R9 O9 F' N' => ?_); (case N => k_asm); (case F => k_asm); (case B => k_asm); (case X => k_asm); (case T => k_asm); (case hk => first | exact rfl | assumption); (case hd => walk_at "hd9"); (case hu => walk_at "hu9"); (case hx => k_mem); (case U => k_updF); (case ho => assumption); (case V => (intro o'; k_updF)); (case hod => assumption); (case lo => assumption); (case h0 => omega); (case h1 => kba_size); (case hz => kba_size); (case n1 => first | assumption | k_ne); (case n2 => first | assumption | k_ne); (case n3 => first | assumption | k_ne); (case hm0 => omega); (case hm1 => omega); (all_goals (have R9c : IsD _ _ _ _ _ _ := R9; ((refine IsD.elim R9c ?_; clear R9c; intro _ _ _ _ _ _ _ _ _ _ _ _ _ _ _ _ _ e9o)); (subst e9o))))); (all_goals (try (exfalso; omega))); (all_goals ((try dsimp only at F'); (try dsimp only at N'); (try dsimp only))); (all_goals (try k_sweep)))
  k_with "call ref" => (k_here; (with_reducible show wpAny _ _ (call (Value.ref 400) [Value.ref _]) _ _ _); k_dflt (refine' ft_new ?B ?F ?X ?T ?hk ?hd ?hu ?N (fun tx9 tdx9 o9 h' tk' T9 F' N' lt9 lt9' => ?_); (case N => k_asm); (case F => k_asm); (case B => k_asm); (case X => k_asm); (case T => k_asm); (case hk => first | exact rfl | assumption); (case hd => walk_at "hd9"); (case hu => walk_at "hu9"); (have T9c : IsFT _ _ _ _ := T9; ((refine IsFT.elim T9c ?_; clear T9c; intro _ _ _ _ _ _ _ _ _ e9t)); (subst e9t))); (all_goals (try (exfalso; omega))); (all_goals ((try dsimp only at F'); (try dsimp only at N'); (try dsimp only at lt9); (try dsimp only))); (all_goals (try (k_lt lt9))); (all_goals (try k_sweep)))
  k_with "call ref" => (k_here; (first | (with_reducible show wpAny _ _ (call (Value.ref 364) [Value.ref _, Value.bytes _ _, Value.bytes _ _]) _ _ _) | (with_reducible show wpAny _ _ (call (Value.ref 364, [Value.ref _]).fst ((Value.ref 364, [Value.ref _]).snd ++ [Value.bytes _ _, Value.bytes _ _])) _ _ _)); k_dflt (refine' open_r ?B ?F ?X ?T ?hk ?hd ?hu ?N ?hx ?U ?V ?ho ?hod ?lo ?hn0 ?hn1 ?hz ?n1 ?n2 ?n3 (fun x9 dx9 o9 ot9 h' tk' R9 T9 F' N' lt9 lt9' => ?_); (case N => k_asm); (case F => k_asm); (case B => k_asm); (case X => k_asm); (case T => k_asm); (case hk => first | exact rfl | assumption); (case hd => walk_at "hd9"); (case hu => walk_at "hu9"); (case hx => k_mem); (case U => k_updF); (case ho => assumption); (case V => (intro o'; k_updF)); (case hod => assumption); (case lo => assumption); (case hn0 => omega); (case hn1 => omega); (case hz => kba_size); (case n1 => first | assumption | k_ne); (case n2 => first | assumption | k_ne); (case n3 => first | assumption | k_ne); (have T9c : IsFT _ _ _ _ := T9; ((refine IsFT.elim T9c ?_; clear T9c; intro _ _ _ _ _ _ _ _ _ e9t)); (subst e9t)); (have R9c : IsR _ _ _ _ _ _ := R9; ((refine IsR.elim R9c ?_; clear R9c; intro _ _ _ _ _ _ _ _ _ _ _ _ _ _ _ _ _ _ _ e9o; intro hpl9 h09 hat9 hoc9 hib9 hl19 hl29 hl39)); (subst e9o))); (all_goals (try (exfalso; omega))); (all_goals ((try dsimp only at F'); (try dsimp only at N'); (try dsimp only at lt9); (try dsimp only))); (all_goals (try (k_lt lt9))); (all_goals (try k_sweep)))
  k_with "call ref" => (k_here; (first | (with_reducible show wpAny _ _ (call (Value.ref 364) [Value.ref _, Value.bytes _ _, Value.bytes (List.toArray _) _]) _ _ _) | (with_reducible show wpAny _ _ (call (Value.ref 364, [Value.ref _]).fst ((Value.ref 364, [Value.ref _]).snd ++ [Value.bytes _ _, Value.bytes (List.toArray _) _])) _ _ _)); k_dflt (refine' open_w ?B ?F ?X ?T ?hk ?hd ?hu ?N ?hx ?U ?V ?ho ?hod ?lo ?hn0 ?hn1 ?hz ?n1 ?n2 ?n3 ?hwd (fun x9 dx9 o9 ot9 od9 t9 h' tk' R9 T9 O9 F' N' lt9 lt9' => ?_); (case N => k_asm); (case F => k_asm); (case B => k_asm); (case X => k_asm); (case T => k_asm); (case hk => first | exact rfl | assumption); (case hd => walk_at "hd9"); (case hu => walk_at "hu9"); (case hx => k_mem); (case U => k_updF); (case ho => assumption); (case V => (intro o'; k_updF)); (case hod => assumption); (case lo => assumption); (case hn0 => omega); (case hn1 => omega); (case hz => kba_size); (case n1 => first | assumption | k_ne); (case n2 => first | assumption | k_ne); (case n3 => first | assumption | k_ne); (case hwd => assumption); (have T9c : IsFT _ _ _ _ := T9; ((refine IsFT.elim T9c ?_; clear T9c; intro _ _ _ _ _ _ _ _ _ e9t)); (subst e9t)); (have R9c : IsD _ _ _ _ _ _ := R9; ((refine IsD.elim R9c ?_; clear R9c; intro _ _ _ _ _ _ _ _ _ _ _ _ _ _ _ _ _ e9o)); (subst e9o))); (all_goals (try (exfalso; omega))); (all_goals ((try dsimp only at F'); (try dsimp only at N'); (try dsimp only at lt9); (try dsimp only))); (all_goals (try (k_lt lt9))); (all_goals (try k_sweep)))
  k_with "call ref" => (k_here; (first | (with_reducible show wpAny _ _ (call (Value.ref 371) [Value.ref _, Value.bytes _ _]) _ _ _) | (with_reducible show wpAny _ _ (call (Value.ref 371, [Value.ref _]).fst ((Value.ref 371, [Value.ref _]).snd ++ [Value.bytes _ _])) _ _ _)); k_dflt (first | (refine' size_a ?B ?F ?X ?T ?hk ?hd ?hu ?N ?hx ?U ?V ?ho ?hod ?lo ?hn0 ?hn1 ?hz ?n1 ?n2 ?n3 (fun ti9 h' tk' F' N' => ?_); (case N => k_asm); (case F => k_asm); (case B => k_asm); (case X => k_asm); (case T => k_asm); (case hk => first | exact rfl | assumption); (case hd => walk_at "hd9"); (case hu => walk_at "hu9"); (case hx => k_mem); (case U => k_updF); (case ho => assumption); (case V => (intro o'; k_updF)); (case hod => assumption); (case lo => assumption); (case hn0 => omega); (case hn1 => omega); (case hz => kba_size); (case n1 => first | assumption | k_ne); (case n2 => first | assumption | k_ne); (case n3 => first | assumption | k_ne))); (all_goals (try (exfalso; omega))); (all_goals ((try dsimp only at F'); (try dsimp only at N'); (try dsimp only at lt9); (try dsimp only))); (all_goals (try (k_lt lt9))); (all_goals (try k_sweep)))
  k_with "subscriptTail" => (k_here; (with_reducible show wpAny _ _ (subscriptTail _ _ (Value.ref _) (Value.int _ _)) _ _ _); k_dflt (refine' menu4 ?N ?m ?h0 ?h1 ?_; (case N => k_asm); (case m => k_mem); (case h0 => exact Int.fmod_nonneg_of_pos _ (by decide)); (case h1 => exact Int.fmod_lt_of_pos _ (by decide)); k_whole); intro wd' tw' hwd')
  k_with "compareOp In bytes ref" => (k_here; (with_reducible show wpAny _ _ (compareOp CmpOp.In (Value.bytes (List.toArray _) _) (Value.ref _)) _ _ _); k_dflt (refine' in_tup2 ?N ?m ?_; (case N => k_asm); (case m => k_mem); k_whole))
  k_with "call ref" => (k_here; (first | (with_reducible show wpAny _ _ (call (Value.ref 139) [Value.ref _]) _ _ _) | (with_reducible show wpAny _ _ (call (Value.ref 139, [Value.ref _]).fst ((Value.ref 139, [Value.ref _]).snd ++ [])) _ _ _)); k_dflt (first | (refine' flush_D ?B ?F ?X ?T ?hk ?hd ?hu ?N ?hx ?hdx ?ho (fun h' tk' F' N' => ?_); (case N => k_asm); (case F => k_asm); (case B => k_asm); (case X => k_asm); (case T => k_asm); (case hk => first | exact rfl | assumption); (case hd => walk_at "hd9"); (case hu => walk_at "hu9"); (case hx => k_mem); (case hdx => k_mem); (case ho => assumption))); (all_goals ((try dsimp only at F'); (try dsimp only at N'); (try dsimp only))); (all_goals (try k_sweep)))
  k_with "call ref" => (k_here; (first | (with_reducible show wpAny _ _ (call (Value.ref 132) [Value.ref _, Value.bytes _ _]) _ _ _) | (with_reducible show wpAny _ _ (call (Value.ref 132, [Value.ref _]).fst ((Value.ref 132, [Value.ref _]).snd ++ [Value.bytes _ _])) _ _ _)); k_dflt (first | (refine' write_RB ?B ?F ?X ?T ?hk ?hd ?hu ?N ?hx ?hdx ?ho (fun G9 e9 de9 hsh9 k9 n9 tk9 tk9' h9' F9 RE9 U9 => ?_); (case N => k_asm); (case F => k_asm); (case B => k_asm); (case X => k_asm); (case T => k_asm); (case hk => first | exact rfl | assumption); (case hd => walk_at "hd9"); (case hu => walk_at "hu9"); (case hx => k_mem); (case hdx => k_mem); (case ho => assumption)) | (refine' write_DB ?B ?F ?X ?T ?hk ?hd ?hu ?N ?hx ?hdx ?ho (fun G9 e9 de9 hsh9 k9 n9 tk9 tk9' h9' F9 RE9 U9 => ?_); (case N => k_asm); (case F => k_asm); (case B => k_asm); (case X => k_asm); (case T => k_asm); (case hk => first | exact rfl | assumption); (case hd => walk_at "hd9"); (case hu => walk_at "hu9"); (case hx => k_mem); (case hdx => k_mem); (case ho => assumption))); (all_goals ((try dsimp only at RE9); (try dsimp only at U9); (try dsimp only))); (all_goals (try k_sweep)))
  k_with "call ref" => (k_here; (first | (with_reducible show wpAny _ _ (call (Value.ref 364) [Value.ref _, Value.bytes _ _, Value.bytes _ _]) _ _ _) | (with_reducible show wpAny _ _ (call (Value.ref 364, [Value.ref _]).fst ((Value.ref 364, [Value.ref _]).snd ++ [Value.bytes _ _, Value.bytes _ _])) _ _ _)); k_dflt (first | (refine' open_none ?B ?F ?X ?T ?hk ?hd ?hu ?N ?hx ?hdx ?U ?ho ?hod ?lo ?n1 ?n2 ?n3 (fun G9 e9 de9 hsh9 k9 n9 tk9 tk9' h9' F9 RE9 U9 => ?_); (case N => k_asm); (case F => k_asm); (case B => k_asm); (case X => k_asm); (case T => k_asm); (case hk => first | exact rfl | assumption); (case hd => walk_at "hd9"); (case hu => walk_at "hu9"); (case hx => k_mem); (case hdx => k_mem); (case ho => assumption); (case U => k_updF); (case hod => assumption); (case lo => assumption); (case n1 => first | assumption | k_ne); (case n2 => first | assumption | k_ne); (case n3 => first | assumption | k_ne)) | (refine' open_rw ?B ?F ?X ?T ?hk ?hd ?hu ?N ?hx ?hdx ?U ?ho ?hod ?lo ?n1 ?n2 ?n3 (fun G9 e9 de9 hsh9 k9 n9 tk9 tk9' h9' F9 RE9 U9 => ?_); (case N => k_asm); (case F => k_asm); (case B => k_asm); (case X => k_asm); (case T => k_asm); (case hk => first | exact rfl | assumption); (case hd => walk_at "hd9"); (case hu => walk_at "hu9"); (case hx => k_mem); (case hdx => k_mem); (case ho => assumption); (case U => k_updF); (case hod => assumption); (case lo => assumption); (case n1 => first | assumption | k_ne); (case n2 => first | assumption | k_ne); (case n3 => first | assumption | k_ne))); (all_goals ((try dsimp only at RE9); (try dsimp only at U9); (try dsimp only))); (all_goals (try k_sweep)))
  k_with "call ref" => (k_here; (first | (with_reducible show wpAny _ _ (call (Value.ref 371) [Value.ref _, Value.bytes #[110, 111, 110, 101] _]) _ _ _) | (with_reducible show wpAny _ _ (call (Value.ref 371, [Value.ref _]).fst ((Value.ref 371, [Value.ref _]).snd ++ [Value.bytes #[110, 111, 110, 101] _])) _ _ _)); k_dflt (first | (refine' size_none ?B ?F ?X ?T ?hk ?hd ?hu ?N ?hx ?hdx ?U ?ho ?hod ?lo ?n1 ?n2 ?n3 (fun h' tk' F' N' => ?_); (case N => k_asm); (case F => k_asm); (case B => k_asm); (case X => k_asm); (case T => k_asm); (case hk => first | exact rfl | assumption); (case hd => walk_at "hd9"); (case hu => walk_at "hu9"); (case hx => k_mem); (case hdx => k_mem); (case ho => assumption); (case U => k_updF); (case hod => assumption); (case lo => assumption); (case n1 => first | assumption | k_ne); (case n2 => first | assumption | k_ne); (case n3 => first | assumption | k_ne))); (all_goals ((try dsimp only at F'); (try dsimp only at N'); (try dsimp only))); (all_goals (try k_sweep)))
  k_with "call ref" => (k_here; (first | (with_reducible show wpAny _ _ (call (Value.ref 392) [Value.ref _, Value.bytes _ _, Value.bytes _ _]) _ _ _) | (with_reducible show wpAny _ _ (call (Value.ref 392, [Value.ref _]).fst ((Value.ref 392, [Value.ref _]).snd ++ [Value.bytes _ _, Value.bytes _ _])) _ _ _)); k_dflt (first | (refine' rename_ac ?B ?F ?X ?T ?hk ?hd ?hu ?N ?hx ?hdx ?U ?ho ?hod ?lo ?n1 ?n2 ?n3 (fun od9 h' tk' O9 F' N' => ?_); (case N => k_asm); (case F => k_asm); (case B => k_asm); (case X => k_asm); (case T => k_asm); (case hk => first | exact rfl | assumption); (case hd => walk_at "hd9"); (case hu => walk_at "hu9"); (case hx => k_mem); (case hdx => k_mem); (case ho => assumption); (case U => k_updF); (case hod => assumption); (case lo => assumption); (case n1 => first | assumption | k_ne); (case n2 => first | assumption | k_ne); (case n3 => first | assumption | k_ne))); (all_goals ((try dsimp only at F'); (try dsimp only at N'); (try dsimp only))); (all_goals (try k_sweep)))
  k_with "call ref" => (k_here; (first | (with_reducible show wpAny _ _ (call (Value.ref 385) [Value.ref _, Value.bytes _ _]) _ _ _) | (with_reducible show wpAny _ _ (call (Value.ref 385, [Value.ref _]).fst ((Value.ref 385, [Value.ref _]).snd ++ [Value.bytes _ _])) _ _ _)); k_dflt (first | (refine' delete_bad ?B ?F ?X ?T ?hk ?hd ?hu ?N ?hx ?hdx ?U ?ho ?hod ?lo ?n1 ?n2 ?n3 (fun G9 e9 de9 hsh9 k9 n9 tk9 tk9' h9' F9 RE9 U9 => ?_); (case N => k_asm); (case F => k_asm); (case B => k_asm); (case X => k_asm); (case T => k_asm); (case hk => first | exact rfl | assumption); (case hd => walk_at "hd9"); (case hu => walk_at "hu9"); (case hx => k_mem); (case hdx => k_mem); (case ho => assumption); (case U => k_updF); (case hod => assumption); (case lo => assumption); (case n1 => first | assumption | k_ne); (case n2 => first | assumption | k_ne); (case n3 => first | assumption | k_ne))); (all_goals ((try dsimp only at RE9); (try dsimp only at U9); (try dsimp only))); (all_goals (try k_sweep)))
  k_with "call ref" => (k_here; (first | (with_reducible show wpAny _ _ (call (Value.ref 385) [Value.ref _, Value.bytes _ _]) _ _ _) | (with_reducible show wpAny _ _ (call (Value.ref 385, [Value.ref _]).fst ((Value.ref 385, [Value.ref _]).snd ++ [Value.bytes _ _])) _ _ _)); k_dflt (first | (refine' delete_b ?B ?F ?X ?T ?hk ?hd ?hu ?N ?hx ?hdx ?U ?ho ?hod ?lo ?n1 ?n2 ?n3 (fun od9 h' tk' O9 F' N' => ?_); (case N => k_asm); (case F => k_asm); (case B => k_asm); (case X => k_asm); (case T => k_asm); (case hk => first | exact rfl | assumption); (case hd => walk_at "hd9"); (case hu => walk_at "hu9"); (case hx => k_mem); (case hdx => k_mem); (case ho => assumption); (case U => k_updF); (case hod => assumption); (case lo => assumption); (case n1 => first | assumption | k_ne); (case n2 => first | assumption | k_ne); (case n3 => first | assumption | k_ne))); (all_goals ((try dsimp only at F'); (try dsimp only at N'); (try dsimp only))); (all_goals (try k_sweep)))
  k_with "callWith ref" => (k_here; (with_reducible show wpAny _ _ (callWith _ (Value.ref 423) _ _ _) _ _ _); k_dflt (refine' callWith_K ?k1 ?k2 ?_; (case k1 => k_asm); (case k2 => k_is); k_whole))
  k_with "compareOp NotEq ref ref" => (refine stop_ ?_)
  k_with "compareOp Eq ref ref" => (refine stop_ ?_)
  k_with "Exists" => (k_here; (refine made_bytes [(_, _)] (by k_asm) (by first | k_asm | exact News.nil) (Top.nolimit (by k_asm)) ⟨bk_is _ _ _ _, rfl, trivial⟩ (of_decide_eq_true (by rfl)) ?_); intro h' o' F' N' lq1 lo' hd'; (try k_lt lq1))
  trivial

theorem kw_41 : True := by
  k_with "execs cons" => (k_here; first
      | ((with_reducible show wpAny _ _ (execs (Stmt.If (Expr.Compare (Expr.Name (Str.ofString "word") _) (CmpOp.In :: _) _ _) _ _ _ :: _) _) _ _ _); refine stop_ ?_)
      | ((with_reducible show wpAny _ _ (execs (Stmt.If (Expr.Compare (Expr.Name (Str.ofString "word") _) (CmpOp.Eq :: _) _ _) _ _ _ :: _) _) _ _ _); refine stop_ ?_)
      | ((with_reducible show wpAny _ _ (execs (Stmt.Assign [Expr.Name (Str.ofString "some") _] _ _ :: _) _) _ _ _); refine stop_ ?_))
  trivial
theorem cr_ok {wd : List UInt8} (h : wd = [114, 43] ∨ wd = [119] ∨ wd = [119, 43] ∨ wd = [97]) (h1 : wd ≠ [97]) (h2 : wd ≠ [119]) : decide (wd = [114, 43] ∨ wd = [119, 43]) = true := by
  rcases h with h | h | h | h
  · exact decide_eq_true (.inl h)
  · exact absurd h h2
  · exact decide_eq_true (.inr h)
  · exact absurd h h1
theorem read_Dc {x dx : Addr}
  {d : Addr} {o od : Obj} {now : List UInt8} {cr : Bool} {at_ : Int} {t1 t2 : Tok} {G : Obj → Obj → List (Addr × Obj)} {many : Int} {tm : Tok}
  (B : Below A₀ base outer h₀) (F : Fr h₀ L s.heap m) (X : (hd.heap_1 w.params).In h₀) (T : Top topProg loose mean mg mb h₀) (hk : cs.kind = .function) (hdp : dp < 590) (hun : un < 900)
  (N : News h₀ L s.heap news) (hx : (x, instObj 280 dx) ∈ news) (U : UpdF dx o news g) (V : ∀ o', UpdF d od (g o') (G o')) (ho : IsD w.params o d cr true at_) (hod : od.IsDictOf (bytesKind rw_on0267_01.row.prog w) [([97], Value.bytes now.toArray t1), ([98], Value.bytes ([] : List UInt8).toArray t2)]) (lo : (d == sysModules) = false) (h0 : 0 ≤ at_) (h1 : at_ ≤ (now.length : Int)) (hz : now.length ≤ 1000) (nxdx : @Ne Nat x dx) (nxd : @Ne Nat x d) (ndd : @Ne Nat dx d) (hm0 : 0 ≤ many) (hm1 : at_ + many ≤ (now.length : Int)) (hcr : cr = true)
  (ret : ∀ o' od' t' ti h' tk, IsD w.params o' d cr true (at_ + many) → od'.IsDictOf (bytesKind rw_on0267_01.row.prog w) [([97], Value.bytes (now).toArray t'), ([98], Value.bytes ([] : List UInt8).toArray t2)] → Fr h₀ L h' m → News h₀ L h' (G o' od') → Q (.bytes ((now.drop at_.toNat).take many.toNat).toArray ti) { s with heap := h', toks := tk }) :
  wpAny (model rw_on0267_01.row.prog w) (ktrTop dp un gd cn cs L a ccd cl outer) (call (.ref 118) [.ref x, .int many tm]) Q E s := by
  subst hcr
  exact read_D B F X T hk hdp hun N hx U V ho hod lo h0 h1 hz nxdx nxd ndd hm0 hm1 ret
theorem kw_42 : True := by
  k_with "call ref" => (k_here; (first | (with_reducible show wpAny _ _ (call (Value.ref 118) [Value.ref _, Value.int _ _]) _ _ _) | (with_reducible show wpAny _ _ (call (Value.ref 118, [Value.ref _]).fst ((Value.ref 118, [Value.ref _]).snd ++ [Value.int _ _])) _ _ _)); (k_dflt (refine' read_Dc ?B ?F ?X ?T ?hk ?hd ?hu ?N ?hx ?U ?V ?ho ?hod ?lo ?h0 ?h1 ?hz ?n1 ?n2 ?n3 ?hm0 ?hm1 ?hcr (fun o9 od9 t9 ti9 h' tk' R9 O9 F' N' => ?_); (case N => k_asm); (case F => k_asm); (case B => k_asm); (case X => k_asm); (case T => k_asm); (case hk => first | exact rfl | assumption); (case hd => walk_at "hd9"); (case hu => walk_at "hu9"); (case hx => k_mem); (case U => k_updF); (case ho => assumption); (case V => (intro o'; k_updF)); (case hod => assumption); (case lo => assumption); (case h0 => omega); (case h1 => kba_size); (case hz => kba_size); (case n1 => first | assumption | k_ne); (case n2 => first | assumption | k_ne); (case n3 => first | assumption | k_ne); (case hm0 => omega); (case hm1 => omega); (case hcr => first | rfl | exact cr_ok (by assumption) (by assumption) (by assumption) | exact cr_ok (by assumption) (fun h => absurd h (by assumption)) (fun h => absurd h (by assumption)) | (refine stop_ ?_)); (all_goals (have R9c : IsD _ _ _ _ _ _ := R9; ((refine IsD.elim R9c ?_; clear R9c; intro _ _ _ _ _ _ _ _ _ _ _ _ _ _ _ _ _ e9o)); (subst e9o))))); (all_goals (try (exfalso; omega))); (all_goals ((try dsimp only at F'); (try dsimp only at N'); (try dsimp only))); (all_goals (try k_sweep)))
  k_with "ite" => ((rename InLoop => hInLoop); k_dflt (refine ite_neg (by first | exact fun h => h rfl | exact fun h => of_decide_eq_true h rfl | (intro h; simp at h; done)) ?_))
  trivial
theorem subK {l l' : List (Addr × Obj)} (pre : List (Addr × Obj)) (h : ∀ p ∈ l, p ∈ l') : ∀ p ∈ pre ++ l, p ∈ pre ++ l' := fun p hp => by
  rcases List.mem_append.mp hp with hp | hp
  · exact List.mem_append_left _ hp
  · exact List.mem_append_right _ (h p hp)
structure DkSt where
  o : Obj
  od : Obj
  now : List UInt8
  at_ : Int
  ta : Tok
  tn : Tok
  c1 : Obj
noncomputable def DkP (w : World) (d : Addr) (cr : Bool) (i : Nat) (c : DkSt) : Prop :=
  IsD w.params c.o d cr true c.at_ ∧ (∃ t t2, c.od.IsDictOf (bytesKind rw_on0267_01.row.prog w) [([97], Value.bytes c.now.toArray t), ([98], Value.bytes ([] : List UInt8).toArray t2)]) ∧ 0 ≤ c.at_ ∧ c.at_ ≤ (c.now.length : Int) ∧ c.now.length ≤ 6 + 3 * i ∧ (∃ v, c.c1.data = .cell v)
theorem DkP.mk {w : World} {d : Addr} {cr : Bool} {i : Nat} {o od c1 : Obj} {now : List UInt8} {at_ : Int} {ta tn : Tok} (h1 : IsD w.params o d cr true at_) (h2 : ∃ t t2, od.IsDictOf (bytesKind rw_on0267_01.row.prog w) [([97], Value.bytes now.toArray t), ([98], Value.bytes ([] : List UInt8).toArray t2)])
    (h3 : 0 ≤ at_) (h4 : at_ ≤ (now.length : Int)) (h5 : now.length ≤ 6 + 3 * i) (h6 : ∃ v, c1.data = .cell v) : DkP w d cr i ⟨o, od, now, at_, ta, tn, c1⟩ := ⟨h1, h2, h3, h4, h5, h6⟩
theorem disk_right {w : World} {A₀ : Around} {base h₀ : Heap} {outer : List Env} {L a : Addr} {m : Str → Option Value} {hh0 : Heap} {gn0 : Array GenState} {dr0 : Drawn} {tk0 : Nat} {os0 : OsState} {Q E : Value → Shared → Prop}
  {dp un : Nat} {gd : Option (List Code)} {cn : Str} {cs : Scope} {ccd : Value} {cl : List (Str × Addr)} {loose : List Str} {mean : ExcName → Option Value} {mg mb : Str → Option Value}
  {oc : List UInt8} {t1 : Tok} {lc : Addr} {vs : List Value} {ns : List Int} {ep : Nat} {own : List (Addr × Obj)}
  (B : Below A₀ base outer h₀) (F : Fr h₀ L hh0 m) (X : (hd.heap_1 w.params).In h₀) (T : Top topProg loose mean mg mb h₀) (hk : cs.kind = .function) (hdp : dp < 500) (hun : un < 300)
  (XB : (hd.heap_1 w.params).In base) (TB : Top topProg loose mean mg mb base) (D : KtsDicts (outer.filterMap (·.frame)) h₀) (N : News h₀ L hh0 ((lc, listOf vs.toArray ep) :: (446, tabObj #[]) :: own)) (hoff : OwnOff own [lc, 446]) (hlc : lc ≠ 446) (CD : CodeHd base 448 446) (hi : IntsAre vs ns) (hn : ∀ n ∈ ns, 0 ≤ n ∧ n ≤ 1000000) (hz : ns.length ≤ 14) (hoc : oc.length ≤ 6)
  (ret : ∀ h₀' h' tk ps', KtsTurn (outer.filterMap (·.frame)) h₀ h₀' → Fr h₀' L h' m → News h₀' L h' ((lc, listOf vs.toArray ep) :: (446, tabObj ps') :: own) → Below A₀ base outer h₀' → (hd.heap_1 w.params).In h₀' → Top topProg loose mean mg mb h₀' → KtsDicts (outer.filterMap (·.frame)) h₀' →
    Q (.bool true) (Shared.mk h' gn0 dr0 tk os0)) :
  wpAny (model rw_on0267_01.row.prog w) (ktrTop dp un gd cn cs L a ccd cl outer) (call (.ref 449) [.bytes oc.toArray t1, .ref lc]) Q E (Shared.mk hh0 gn0 dr0 tk0 os0) := by
  have hsz : oc.toArray.size = oc.length := List.size_toArray
  revert X
  k_fill
  intro X
  refine wpAny_call ?_
  k_dflt (refine' code_defCT ?k1 ?k2 ?k3 ?k4 ?k5 ?XB ?TB ?D ?kA ?kF ?kK ?k6 ?k7 ?k8 ?k9 ?kB ?kD ?_ ?c2 ?c3 ?c4; (case kA => exact rfl); (case kF => exact rfl); (case kK => first | exact rfl | assumption); (case k1 => k_asm); (case k2 => k_asm); (case k3 => k_asm); (case k4 => k_asm); (case k5 => k_asm); (case XB => assumption); (case TB => assumption); (case D => assumption); (case k6 => k_is); (case k7 => k_is); (case k8 => k_room); (case k9 => first | exact BindsTo.of_eq rfl | exact binds_K (by k_in) rfl (by k_is) rfl rfl rfl | fail "k_enter: no rule for these arguments"); (case kB => exact rfl); (case kD => decide +kernel); (case c2 => exact rfl); (case c3 => exact rfl); (case c4 => exact rfl); k_whole; intro g' L' h' tk' cells' FG' F' N' Y' B' X' T' l1 D'; (try k_lt l1); k_cells Y'; (try simp only [List.cons_append, List.nil_append] at N'); (try dsimp only); (try k_lift B'); (try k_fold))
  try dsimp only
  have l2 := l1.2.2
  k_steps
  rename List UInt8 => wd
  unfold Stop
  (rename Fr _ _ _ _ => F9); (rename News _ _ _ _ => N9)
  refine' cut_name (Str.ofString "now") (fun v => ∃ tn z, v = .bytes (List.toArray z) tn ∧ z = (if wd = [119] ∨ wd = [119, 43] then [] else oc)) F9 N9 ?st_now ?_
  case st_now =>
    intro Q' hQ'
    k_steps
    all_goals ((rename Fr _ _ _ _ => F8); (rename News _ _ _ _ => N8))
    all_goals first
      | exact hQ' _ _ _ ⟨_, _, rfl, by rw [if_pos (by assumption)]⟩ F8 (fun p hp => N8 p (by first | exact hp | exact .tail _ hp))
      | exact hQ' _ _ _ ⟨_, _, rfl, by rw [if_neg (by assumption)]⟩ (fr_same F8 rfl) (fun p hp => N8 p (by first | exact hp | exact .tail _ hp))
  clear F9 N9
  intro h9 tk9 v9 hv9 F9 N9
  obtain ⟨tn9, now, rfl, hnow⟩ := hv9
  have hnl : now.length ≤ oc.length := by rw [hnow]; split <;> simp
  try k_fold
  k_steps
  unfold Stop
  (rename Fr _ _ _ _ => F9); (rename News _ _ _ _ => N9)
  refine' cut_name (Str.ofString "at") (fun v => ∃ tn z, v = .int z tn ∧ z = (if wd = [97] then (now.length : Int) else 0)) F9 N9 ?st_at ?_
  case st_at =>
    intro Q' hQ'
    k_steps
    all_goals ((rename Fr _ _ _ _ => F8); (rename News _ _ _ _ => N8))
    all_goals first
      | exact hQ' _ _ _ ⟨_, _, rfl, by rw [if_pos (by assumption)]⟩ F8 (fun p hp => N8 p (by first | exact hp | exact .tail _ hp))
      | exact hQ' _ _ _ ⟨_, _, rfl, by rw [if_neg (by assumption)]⟩ (fr_same F8 rfl) (fun p hp => N8 p (by first | exact hp | exact .tail _ hp))
  clear F9 N9
  intro h9 tk9 v9 hv9 F9 N9
  obtain ⟨ta9, at_, rfl, hat⟩ := hv9
  have hat0 : 0 ≤ at_ ∧ at_ ≤ now.length := by rw [hat]; split <;> omega
  try k_fold
  k_steps

  unfold Stop
  (rename Fr _ _ _ _ => wF); (rename News _ _ _ _ => wN)
  have hat2 : (if wd = [97] then (oc.length : Int) else 0) = at_ := by
    rw [hat, hnow]
    by_cases h : wd = [97]
    · subst h; simp
    · rw [if_neg h, if_neg h]
  (rename IsD _ _ _ _ _ _ => R9); (rename Obj.IsDictOf _ _ _ => O9); (rename IsR _ _ _ _ _ _ => Q9); (rename IsFT _ _ _ _ => T9)
  rw [← hnow] at O9
  rw [hat2] at R9 wN
  refine' (show (∀ D1 tD1 x dx o l1' tl1' rx rdx ro D2 tD2 tx tdx ot d od c4 c3 c2 c1, News g' L' _ ((D1, tD1) :: (x, instObj 280 dx) :: (dx, o) :: (l1', tl1') :: (rx, instObj 226 rdx) :: (rdx, ro) :: (D2, tD2) :: (tx, instObj 400 tdx) :: (tdx, ot) :: (d, od) :: (L' + 1 + 1 + 1 + 1, c4) :: (L' + 1 + 1 + 1, c3) :: (L' + 1 + 1, c2) :: (L' + 1, c1) :: (lc, listOf vs.toArray ep) :: (446, tabObj #[]) :: own) → c4.data = .cell (some (.ref tx)) → c3.data = .cell (some (.ref rx)) → c2.data = .cell (some (.ref x)) → (∃ v, c1.data = .cell v) → IsD w.params o d (decide (wd = [114, 43] ∨ wd = [119, 43])) true at_ → IsR w.params ro oc 0 false false → IsFT w.params ot d 5 → (∃ t t2, od.IsDictOf (bytesKind rw_on0267_01.row.prog w) [([97], Value.bytes now.toArray t), ([98], Value.bytes ([] : List UInt8).toArray t2)]) → (d == sysModules) = false → (@LT.lt Nat _ (L' + 1 + 1 + 1 + 1) d ∧ @LT.lt Nat _ d tdx ∧ @LT.lt Nat _ tdx tx ∧ @LT.lt Nat _ tx rdx ∧ @LT.lt Nat _ rdx rx ∧ @LT.lt Nat _ rx dx ∧ @LT.lt Nat _ dx x) → d = _ → _) → _ from fun H9 => H9 _ _ _ _ _ _ _ _ _ _ _ _ _ _ _ _ _ _ _ _ _ wN ?ex0 ?ex1 ?ex2 ?ex3 ?ex4 ?ex5 ?ex6 ?ex7 ?ex8 ?ex9 rfl) ?exm
  case ex0 => assumption
  case ex1 => assumption
  case ex2 => assumption
  case ex3 => exact ⟨_, by assumption⟩
  case ex4 => exact R9
  case ex5 => exact Q9
  case ex6 => exact T9
  case ex7 => exact ⟨_, _, O9⟩
  case ex8 => assumption
  case ex9 => ((try dsimp only); omega)
  case exm =>
  (repeat (rename (Obj.data _ = _) => z9; clear z9))
  intro D1 tD1 x dx o l1' tl1' rx rdx ro D2 tD2 tx tdx ot d od c4 c3 c2 c1 N1 hc4 hc3 hc2 hc1 R1 Rr Tt Od lo hb hd9
  have N2 : News g' L' _ ((x, instObj 280 dx) :: (dx, o) :: (rx, instObj 226 rdx) :: (rdx, ro) :: (tx, instObj 400 tdx) :: (tdx, ot) :: (d, od) :: (L' + 1 + 1 + 1 + 1, c4) :: (L' + 1 + 1 + 1, c3) :: (L' + 1 + 1, c2) :: (L' + 1, c1) :: (lc, listOf vs.toArray ep) :: (446, tabObj #[]) :: own) := newsTail (fun p hp => N1 p (by
    rcases List.mem_cons.mp hp with rfl | hp
    · exact .head _
    · rcases List.mem_cons.mp hp with rfl | hp
      · exact .tail _ (.head _)
      · rcases List.mem_cons.mp hp with rfl | hp
        · exact .tail _ (.tail _ (.head _))
        · rcases List.mem_cons.mp hp with rfl | hp
          · exact .tail _ (.tail _ (.tail _ (.tail _ (.head _))))
          · rcases List.mem_cons.mp hp with rfl | hp
            · exact .tail _ (.tail _ (.tail _ (.tail _ (.tail _ (.head _)))))
            · exact .tail _ (.tail _ (.tail _ (.tail _ (.tail _ (.tail _ (.tail _ hp))))))) : News g' L' _ ((D1, tD1) :: _))
  rw [← hd9] at wF
  clear wN N1
  have hlL : @LT.lt Nat _ lc L' := l1.1
  have h4L : @LT.lt Nat _ 446 L' := l1.2.1
  obtain ⟨b1, b2, b3, b4, b5, b6, b7⟩ := hb
  have hS : Srt [L', L' + 1, L' + 1 + 1, L' + 1 + 1 + 1, L' + 1 + 1 + 1 + 1, d, tdx, tx, rdx, rx, dx, x] := .cons (Nat.lt_succ_self _) (.cons (Nat.lt_succ_self _) (.cons (Nat.lt_succ_self _) (.cons (Nat.lt_succ_self _) (.cons b1 (.cons b2 (.cons b3 (.cons b4 (.cons b5 (.cons b6 (.cons b7 ⟨fun _ h => (nomatch h), trivial⟩))))))))))
  have sv0 := Srt.above hlL hS
  have sv1 := Srt.above h4L hS
  have su0 := hS.1
  have su1 := hS.2.1
  have su2 := hS.2.2.1
  have su3 := hS.2.2.2.1
  have su4 := hS.2.2.2.2.1
  have su5 := hS.2.2.2.2.2.1
  have su6 := hS.2.2.2.2.2.2.1
  have su7 := hS.2.2.2.2.2.2.2.1
  have su8 := hS.2.2.2.2.2.2.2.2.1
  have su9 := hS.2.2.2.2.2.2.2.2.2.1
  have su10 := hS.2.2.2.2.2.2.2.2.2.2.1
  clear hS
  revert B F T XB TB D X FG' B' X' T' D' wF N2 R1 Rr Tt Od lo hc4 hc3 hc2 hc1 hat0
  (repeat (rename News _ _ _ _ => z9; clear z9))
  (repeat (rename Fr _ _ _ _ => z9; clear z9))
  (repeat (rename Below _ _ _ _ => z9; clear z9))
  (repeat (rename Top _ _ _ _ _ _ => z9; clear z9))
  (repeat (rename Frag.In _ _ => z9; clear z9))
  (repeat (rename _ ∧ _ => z9; clear z9))
  (repeat (rename Obj.IsDictOf _ _ _ => z9; clear z9))
  (repeat (rename IsFT _ _ _ _ => z9; clear z9))
  (repeat (rename IsR _ _ _ _ _ _ => z9; clear z9))
  (repeat (rename IsD _ _ _ _ _ _ => z9; clear z9))
  (repeat (rename Obj.data _ = Data.cell _ => z9; clear z9))
  (repeat (rename _ = false → _ => z9; clear z9))
  (repeat (rename _ = true → _ => z9; clear z9))
  intro B F T XB TB D X FG' B' X' T' D' hat0 wF hc4 hc3 hc2 hc1 R1 Rr Tt Od lo N2
  with_unfolding_all refine' loop_G (σ := DkSt) (nn := ep) (vs := vs) (fun c => (x, instObj 280 dx) :: (dx, c.o) :: (rx, instObj 226 rdx) :: (rdx, ro) :: (tx, instObj 400 tdx) :: (tdx, ot) :: (d, c.od) :: (L' + 1 + 1 + 1 + 1, c4) :: (L' + 1 + 1 + 1, c3) :: (L' + 1 + 1, c2) :: (L' + 1, c.c1) :: (lc, listOf vs.toArray ep) :: (446, tabObj #[]) :: own) (fun c => [(Str.ofString "at", .int c.at_ c.ta), (Str.ofString "now", .bytes c.now.toArray c.tn)]) [Str.ofString "way", Str.ofString "some", Str.ofString "many"] (DkP w d (decide (wd = [114, 43] ∨ wd = [119, 43]))) ⟨o, od, now, at_, ta9, tn9, c1⟩ ?hh ?hl wF N2 ?hk ⟨R1, Od, hat0.1, hat0.2, by dsimp only; omega, hc1⟩ ?turn ?done
  case hh => rfl
  case hl => intro c; simp
  case hk => kst_all
  case turn =>
    clear wF N2 R1 Od hc1 hat0 hat2 hat hnow hnl
    intro c pre v u h9 tk9 own' hv hoff' hp F8 N8
    obtain ⟨co, cod, cnow, cat, cta, ctn, cc1⟩ := c
    obtain ⟨hR8, ⟨t8, t82, hod8⟩, h08, h18, hz8, ⟨vc8, hc8⟩⟩ := hp
    dsimp only at hR8 hod8 h08 h18 hz8 hc8 F8 N8
    obtain ⟨n, t9, rfl, hmem⟩ := intsAre_at hi hv
    have hpre : pre < vs.length := (List.getElem?_eq_some_iff.mp hv).1
    have hvl := IntsAre.length hi
    have hz9 : cnow.length ≤ 60 := by omega
    have hoff9 := hoff'
    simp only [List.map_cons] at hoff9
    clear hoff'
    obtain ⟨tl, htl⟩ : ∃ tl, tl = own ++ own' := ⟨_, rfl⟩
    have htl2 : ∀ p ∈ own', p ∈ tl := fun p hp => by rw [htl]; exact List.mem_append_right _ hp
    have hkt : ∀ p ∈ own, p ∈ tl := fun p hp => by rw [htl]; exact List.mem_append_left _ hp
    have hofft : OwnOff tl [lc, 446, L' + 1, L' + 1 + 1, L' + 1 + 1 + 1, L' + 1 + 1 + 1 + 1, d, tdx, tx, rdx, rx, dx, x] := by
      rw [htl]
      refine offApp (offC (fun p hp => hoff p hp _ (.head _)) (offC (fun p hp => hoff p hp _ (.tail _ (.head _))) (offLow l2 ?_))) (offSub hoff9 (by repeat' (first | exact List.forall_mem_nil _ | refine List.forall_mem_cons.mpr ⟨by k_mem, ?_⟩)))
      (repeat' (first | exact List.forall_mem_nil _ | refine List.forall_mem_cons.mpr ⟨?_, ?_⟩))
      all_goals first | exact Nat.le_refl _ | exact Nat.le_of_lt (abv (by assumption) (by k_mem)) | omega
    simp only [List.cons_append] at N8
    rw [← htl] at N8
    have hn9 := hn n hmem
    have hw1 : 0 ≤ (n.fdiv 4).fmod ((cnow.length : Int) + 1) ∧ (n.fdiv 4).fmod ((cnow.length : Int) + 1) < (cnow.length : Int) + 1 := ⟨Int.fmod_nonneg_of_pos _ (by omega), Int.fmod_lt_of_pos _ (by omega)⟩
    have hw2 : 0 ≤ (n.fdiv 4).fmod ((cnow.length : Int) - cat + 1) ∧ (n.fdiv 4).fmod ((cnow.length : Int) - cat + 1) < (cnow.length : Int) - cat + 1 := ⟨Int.fmod_nonneg_of_pos _ (by omega), Int.fmod_lt_of_pos _ (by omega)⟩
    have hw0 : 0 ≤ n.fmod 4 ∧ n.fmod 4 < 4 := ⟨Int.fmod_nonneg_of_pos _ (by decide), Int.fmod_lt_of_pos _ (by decide)⟩
    have hxdx : @Ne Nat x dx := by k_ne
    have hxd : @Ne Nat x d := by k_ne
    have hdxd : @Ne Nat dx d := by k_ne
    change News g' L' h9 _ at N8
    change Fr g' L' h9 _ at F8
    refine unq_in ?_
    intro Qt Et hQt hEt
    clear hEt
    obtain ⟨Fn, hFn⟩ : ∃ Fn : Obj → Obj → Obj → List (Addr × Obj), Fn = fun o od c1 => (x, instObj 280 dx) :: (dx, o) :: (rx, instObj 226 rdx) :: (rdx, ro) :: (tx, instObj 400 tdx) :: (tdx, ot) :: (d, od) :: (L' + 1 + 1 + 1 + 1, c4) :: (L' + 1 + 1 + 1, c3) :: (L' + 1 + 1, c2) :: (L' + 1, c1) :: (lc, listOf vs.toArray ep) :: (446, tabObj #[]) :: tl := ⟨_, rfl⟩
    have N9 : News g' L' h9 (Fn co cod cc1) := by rw [hFn]; exact N8
    obtain ⟨m8, hm8, F9⟩ : ∃ m8, m8 = _ ∧ Fr g' L' h9 m8 := ⟨_, rfl, F8⟩
    clear N8 F8
    have hE : ∀ h tk l o od c1 (nw : List UInt8) at_ ta tn, Fr g' L' h (mp l m8) → News g' L' h (Fn o od c1) → IsD w.params o d (decide (wd = [114, 43] ∨ wd = [119, 43])) true at_ → (∃ t t2, od.IsDictOf (bytesKind rw_on0267_01.row.prog w) [([97], Value.bytes nw.toArray t), ([98], Value.bytes ([] : List UInt8).toArray t2)]) →
        0 ≤ at_ → at_ ≤ (nw.length : Int) → nw.length ≤ 6 + 3 * (pre + 1) → (∃ v, c1.data = .cell v) → mp l m8 (Str.ofString "at") = some (.int at_ ta) → mp l m8 (Str.ofString "now") = some (.bytes nw.toArray tn) → (l.all fun p => [Str.ofString "at", Str.ofString "now", Str.ofString "way", Str.ofString "some", Str.ofString "many"].contains p.1) = true → Qt .next (Shared.mk h gn0 dr0 tk os0) := by
      intro h tk l o od c1 nw at_ ta tn Ff Nf R1 R2 b0 b1 b2 q1 k1 k2 k3
      rw [hQt]
      dsimp only [PostG]
      rw [hFn] at Nf
      refine endG ⟨o, od, nw, at_, ta, tn, c1⟩ Ff Nf ?_ ?_ ?_ ?_ ?_ ?_ (DkP.mk (ta := ta) (tn := tn) R1 R2 b0 b1 b2 q1)
      · exact (fun p hp => subK [_, _, _, _, _, _, _, _, _, _, _, _, _] hkt p hp)
      · intro p hp
        have hp' : p ∈ tl := htl2 p hp
        k_ownIn
      · k_memK
      · simp only [List.map_cons]; exact hoff9
      · intro q hq
        rcases List.mem_cons.mp hq with rfl | hq
        · exact k1
        · rw [List.mem_singleton.mp hq]; exact k2
      · intro z h1 h2 h3
        have e1 : z ≠ Str.ofString "at" := h2 _ (.head _)
        have e2 : z ≠ Str.ofString "now" := h2 _ (.tail _ (.head _))
        rw [mp_other ?_, hm8]
        · have h4 := h3
          simp only [List.contains_cons, List.contains_nil, Bool.or_false, Bool.or_eq_false_iff, beq_eq_false_iff_ne, ne_eq] at h3
          simp only [h1, e1, e2, h4, kstB, if_false, Bool.false_eq_true]
        · intro q hq e
          have := List.all_eq_true.mp k3 q hq
          rw [← e, List.contains_cons, List.contains_cons, show (z == Str.ofString "at") = false from beq_eq_false_iff_ne.mpr e1, show (z == Str.ofString "now") = false from beq_eq_false_iff_ne.mpr e2, h3] at this
          cases this
    have mx : ∀ o od c1, (x, instObj 280 dx) ∈ Fn o od c1 := by intro o od c1; rw [hFn]; exact .head _
    have md : ∀ o od c1, (dx, o) ∈ Fn o od c1 := by intro o od c1; rw [hFn]; exact .tail _ (.head _)
    have mD : ∀ o od c1, (d, od) ∈ Fn o od c1 := by intro o od c1; rw [hFn]; k_mem
    have m2 : ∀ o od c1, (L' + 1 + 1, c2) ∈ Fn o od c1 := by intro o od c1; rw [hFn]; k_mem
    have m1 : ∀ o od c1, (L' + 1, c1) ∈ Fn o od c1 := by intro o od c1; rw [hFn]; k_mem
    have uo : ∀ o od c1, UpdF dx o (Fn o od c1) (fun o' => Fn o' od c1) := by intro o od c1; rw [hFn]; dsimp only; k_updF
    have ud : ∀ o od c1, UpdF d od (Fn o od c1) (fun od' => Fn o od' c1) := by intro o od c1; rw [hFn]; dsimp only; k_updF
    have u1 : ∀ o od c1, UpdF (L' + 1) c1 (Fn o od c1) (fun c1' => Fn o od c1') := by intro o od c1; rw [hFn]; dsimp only; k_updF
    have nce : m8 (Str.ofString "cell") = some (.int n t9) := by rw [hm8]; rfl
    have nat_ : m8 (Str.ofString "at") = some (.int cat cta) := by rw [hm8]; rfl
    have nnow : m8 (Str.ofString "now") = some (.bytes cnow.toArray ctn) := by rw [hm8]; rfl
    obtain ⟨tw9, nwd⟩ : ∃ tw, m8 (Str.ofString "word") = some (.bytes wd.toArray tw) := ⟨_, by rw [hm8]; rfl⟩
    have ndk : m8 (Str.ofString "disk") = some (.ref d) := by rw [hm8]; rfl
    clear hQt hm8
    k_with "pe" => first
      | exact PE.ci | exact PE.cb | exact PE.cNone | exact PE.ct
      | exact PE.toI (PE.nm rfl) | exact PE.toB (PE.nm rfl) | exact PE.nm rfl
      | exact PE.toI (PE.nm (by assumption)) | exact PE.toB (PE.nm (by assumption)) | exact PE.nm (by assumption)
      | exact PE.toI (PE.nmC (m1 _ _ _) (by assumption) rfl) | exact PE.nmC (m2 _ _ _) (by assumption) rfl
      | (apply PE.bin; (· walk_at "pe"); (· walk_at "pe"); (· walk_at "bi"))
      | ((with_reducible show PE _ _ _ _ _ _ _ (Expr.Call _ _ _ _) _); exact PE.len (by assumption) (topRead_of (by assumption)) (by k_is) (by walk_at "pe") (by omega))
      | (apply PE.ditemB; (· walk_at "pe"); (· walk_at "pe"); (· exact mD _ _ _); (· assumption); (· rfl); (· (intro _; with_unfolding_all rfl)); (· (intro _; with_unfolding_all rfl)))
      | (apply PE.slij; (· walk_at "pe"); (· walk_at "pe"); (· walk_at "pe"); (· omega); (· omega); (· omega); (· (intro _ _; with_unfolding_all rfl)); (· (intro _ _; with_unfolding_all rfl)))
      | (apply PE.sli; (· walk_at "pe"); (· walk_at "pe"); (· omega); (· omega); (· (intro _ _; with_unfolding_all rfl)); (· (intro _ _; with_unfolding_all rfl)))
      | (apply PE.slj; (· walk_at "pe"); (· walk_at "pe"); (· omega); (· omega); (· (intro _ _; with_unfolding_all rfl)); (· (intro _ _; with_unfolding_all rfl)))
    k_with "bi" => first | exact Bi.add | exact Bi.sub | exact Bi.mod (by first | decide | omega) | exact Bi.div (by decide) (PyProof.noPylong_of_log2 (by decide +kernel)) | exact Bi.addB (by first | exact put_ok1 (b := 0) hz9 hsm rfl | exact put_ok2 hz9 hsm rfl | omega | (simp only [List.length_append, List.length_take, List.length_drop]; omega))
    k_with "cm" => first | exact Cm.lt | exact Cm.gt | exact Cm.eq | exact Cm.ne | exact Cm.eqB | exact Cm.neB | exact Cm.isNN | exact Cm.isIN | exact Cm.notNN | exact Cm.notBN
    k_with "pt" => first
      | (apply PT.cmp; (· walk_at "pe"); (· walk_at "pe"); (· walk_at "cm"); (· rfl))
      | (apply PT.or; (· walk_at "pt"); (· walk_at "pt"))
    have F9 : Fr g' L' h9 (mp [] m8) := F9
    refine' St.asg2C F9 N9 ?y0_ ?y1_ (u1 _ _ _) hc8 ?y2_ rfl
    case y0_ => walk_at "pe"
    case y1_ => walk_at "pe"
    case y2_ =>
    intro h9 tk9 ta9 tb9 c5 F9 N9 hc5
    dsimp only [AV.v] at hc5
    refine' cut_name (Str.ofString "some") (fun v => ∃ ts sm, v = .bytes (List.toArray sm) ts ∧ sm.length ≤ 3) F9 N9 ?st_some ?_
    case st_some =>
      intro Q' hQ'
      rw [hFn] at N9
      dsimp only at N9
      k_steps
      all_goals ((rename Fr _ _ _ _ => F8); (rename News _ _ _ _ => N8))
      exact hQ' _ _ _ ⟨_, (byteArr (List.map (fun k' => 65 + (n.fdiv 4 + k').fmod 26) (rangeKs 0 ((n.fdiv 4).fmod 4 - 0).toNat))).toList, by rw [Array.toArray_toList], by
        rw [Array.length_toList, byteArr_size, List.length_map, rangeKs_length]
        have h4 : (n.fdiv 4).fmod 4 < 4 := Int.fmod_lt_of_pos _ (by decide)
        omega⟩ F8 (by rw [hFn]; exact newsTail N8)
    clear F9 N9
    intro h9 tk9 v9 hv9 F9 N9
    obtain ⟨ts9, sm, rfl, hsm⟩ := hv9
    rw [mp_cons] at F9
    by_cases hA : n.fmod 4 < 2 ∨ wd = [97]
    · skip
      refine' St.ifT F9 N9 (PT.cast ?y3_ ?y4_) ?y5_
      case y3_ => walk_at "pt"
      case y4_ => (rw [Bool.or_eq_true]; rcases hA with h | h; (· exact .inl (decide_eq_true h)); (· exact .inr (decide_eq_true h)))
      case y5_ =>
      intro h9 tk9 F9 N9
      refine St.exp ?_
      refine' meth1 F9 N9 X' ?y6_ ?y12_ (mx _ _ _) (md _ _ _) (noM_D hR8 (by k_mem)) ?y7_ ?y8_ ?y9_ ?y10_ ?y11_
      case y6_ => walk_at "pe"
      case y12_ => walk_at "pe"
      case y7_ => k_is
      case y8_ => k_is
      case y9_ => k_is
      case y10_ => k_is
      case y11_ =>
      intro h9 tk9 ta9 F9 N9
      refine' write_D (G := fun o' od' => Fn o' od' _) B' F9 X' T' rfl ?y13_ ?y14_ N9 (mx _ _ _) (uo _ _ _) (fun o' => ud _ _ _) hR8 hod8 lo h08 h18 (Nat.le_trans hz9 (Nat.le_of_ble_eq_true rfl)) hxdx hxd hdxd (Nat.le_trans hsm (Nat.le_of_ble_eq_true rfl)) ?y15_
      case y13_ => walk_at "hd9"
      case y14_ => walk_at "hu9"
      case y15_ =>
      intro o9 od9 t9 h9 tk9 R9 O9 F9 N9
      refine' St.asg F9 N9 ?y16_ ?y17_
      case y16_ => walk_at "pe"
      case y17_ =>
      intro h9 tk9 t9 F9 N9
      refine' St.asg F9 N9 ?y18_ ?y19_
      case y18_ => walk_at "pe"
      case y19_ =>
      intro h9 tk9 t9 F9 N9
      refine St.nilC ?_
      have hln : (List.take cat.toNat cnow ++ sm ++ List.drop (cat + sm.length).toNat cnow).length ≤ cnow.length + 3 ∧ cat + sm.length ≤ ((List.take cat.toNat cnow ++ sm ++ List.drop (cat + sm.length).toNat cnow).length : Int) := put_len h08 h18 hsm
      have hl2 : (List.take cat.toNat cnow ++ sm ++ List.drop (cat + sm.length).toNat cnow).length ≤ 100 := Nat.le_trans hln.1 (Nat.le_trans (Nat.add_le_add_right hz9 3) (Nat.le_of_ble_eq_true rfl))
      have hl3 : (List.take cat.toNat cnow ++ sm ++ List.drop (cat + sm.length).toNat cnow).length ≤ 6 + 3 * (pre + 1) := Nat.le_trans hln.1 (Nat.le_trans (Nat.add_le_add_right hz8 3) (Nat.le_of_eq (by rw [Nat.mul_add, Nat.mul_one, Nat.add_assoc])))
      refine' St.ifOP F9 N9 (PT.cast ?y20_ ?y21_) ?y22_
      case y20_ => walk_at "pt"
      case y21_ => exact decide_eq_false (fun h => h rfl)
      case y22_ =>
      intro h9 tk9 F9 N9
      refine' meth0 F9 N9 X' ?y23_ (mx _ _ _) (md _ _ _) (noM_D R9 (by k_mem)) ?y24_ ?y25_ ?y26_ ?y27_ ?y28_
      case y23_ => walk_at "pe"
      case y24_ => k_is
      case y25_ => k_is
      case y26_ => k_is
      case y27_ => k_is
      case y28_ =>
      intro h9 tk9 F9 N9
      refine' pos_D (G := fun o' od' => Fn o' od' _) B' F9 X' T' rfl ?y30_ ?y31_ N9 (mx _ _ _) (uo _ _ _) (fun o' => ud _ _ _) R9 O9 lo (by omega) hln.2 (Nat.le_trans hl2 (Nat.le_of_ble_eq_true rfl)) hxdx hxd hdxd  ?y32_
      case y30_ => walk_at "hd9"
      case y31_ => walk_at "hu9"
      case y32_ =>
      intro o8 od8 t8 ti8 h9 tk9 R8 O8 F9 N9
      refine' CmpR.use (x1 := .int _) F9 N9 ?y33_ (Cm.cast Cm.ne (bne_self_eq_false _)) ?y34_
      case y33_ => walk_at "pe"
      case y34_ =>
      intro h9 tk9 F9 N9
      refine IfR.noL ?_
      exact hE _ _ _ _ _ _ _ _ _ _ F9 N9 R8 ⟨_, _, O8⟩ (by omega) hln.2 hl3 ⟨_, hc5⟩ rfl rfl rfl
    obtain ⟨hw24, hwa⟩ := not_or.mp hA
    refine' St.ifFc F9 N9 (PT.cast ?y35_ ?y36_) ?y37_
    case y35_ => walk_at "pt"
    case y36_ => (rw [decide_eq_false hw24, decide_eq_false hwa]; rfl)
    case y37_ =>
    intro h9 tk9 F9 N9
    by_cases hS2 : n.fmod 4 = 2
    · skip
      refine' St.ifTl F9 N9 (PT.cast ?y38_ ?y39_) ?y40_
      case y38_ => walk_at "pt"
      case y39_ => exact beq_iff_eq.mpr hS2
      case y40_ =>
      intro h9 tk9 F9 N9
      refine' St.asg F9 N9 ?y41_ ?y42_
      case y41_ => walk_at "pe"
      case y42_ =>
      intro h9 tk9 t9 F9 N9
      refine St.exp ?_
      refine' meth1 F9 N9 X' ?y43_ ?y49_ (mx _ _ _) (md _ _ _) (noM_D hR8 (by k_mem)) ?y44_ ?y45_ ?y46_ ?y47_ ?y48_
      case y43_ => walk_at "pe"
      case y49_ => walk_at "pe"
      case y44_ => k_is
      case y45_ => k_is
      case y46_ => k_is
      case y47_ => k_is
      case y48_ =>
      intro h9 tk9 ta9 F9 N9
      refine' setpos_D (G := fun o' od' => Fn o' od' _) B' F9 X' T' rfl ?y50_ ?y51_ N9 (mx _ _ _) (uo _ _ _) (fun o' => ud _ _ _) hR8 hod8 lo h08 h18 (Nat.le_trans hz9 (Nat.le_of_ble_eq_true rfl)) hxdx hxd hdxd hw1.1 (Int.le_of_lt_add_one hw1.2) ?y52_
      case y50_ => walk_at "hd9"
      case y51_ => walk_at "hu9"
      case y52_ =>
      intro o9 od9 t9 h9 tk9 R9 O9 F9 N9
      refine St.nilC ?_
      refine' St.ifOP F9 N9 (PT.cast ?y53_ ?y54_) ?y55_
      case y53_ => walk_at "pt"
      case y54_ => exact decide_eq_false (fun h => h rfl)
      case y55_ =>
      intro h9 tk9 F9 N9
      refine' meth0 F9 N9 X' ?y56_ (mx _ _ _) (md _ _ _) (noM_D R9 (by k_mem)) ?y57_ ?y58_ ?y59_ ?y60_ ?y61_
      case y56_ => walk_at "pe"
      case y57_ => k_is
      case y58_ => k_is
      case y59_ => k_is
      case y60_ => k_is
      case y61_ =>
      intro h9 tk9 F9 N9
      refine' pos_D (G := fun o' od' => Fn o' od' _) B' F9 X' T' rfl ?y63_ ?y64_ N9 (mx _ _ _) (uo _ _ _) (fun o' => ud _ _ _) R9 O9 lo hw1.1 (Int.le_of_lt_add_one hw1.2) (Nat.le_trans hz9 (Nat.le_of_ble_eq_true rfl)) hxdx hxd hdxd  ?y65_
      case y63_ => walk_at "hd9"
      case y64_ => walk_at "hu9"
      case y65_ =>
      intro o8 od8 t8 ti8 h9 tk9 R8 O8 F9 N9
      refine' CmpR.use (x1 := .int _) F9 N9 ?y66_ (Cm.cast Cm.ne (bne_self_eq_false _)) ?y67_
      case y66_ => walk_at "pe"
      case y67_ =>
      intro h9 tk9 F9 N9
      refine IfR.noL ?_
      exact hE _ _ _ _ _ _ _ _ _ _ F9 N9 R8 ⟨_, _, O8⟩ hw1.1 (Int.le_of_lt_add_one hw1.2) (by omega) ⟨_, hc5⟩ rfl nnow rfl
    refine' St.ifFl F9 N9 (PT.cast ?y68_ ?y69_) ?y70_
    case y68_ => walk_at "pt"
    case y69_ => exact beq_eq_false_iff_ne.mpr hS2
    case y70_ =>
    intro h9 tk9 F9 N9
    by_cases hww : wd = [119]
    · skip
      refine' St.ifFl F9 N9 (PT.cast ?y71_ ?y72_) ?y73_
      case y71_ => walk_at "pt"
      case y72_ => exact decide_eq_false (fun h => h hww)
      case y73_ =>
      intro h9 tk9 F9 N9
      refine St.nilC ?_
      refine' St.ifOP F9 N9 (PT.cast ?y74_ ?y75_) ?y76_
      case y74_ => walk_at "pt"
      case y75_ => exact decide_eq_false (fun h => h rfl)
      case y76_ =>
      intro h9 tk9 F9 N9
      refine' meth0 F9 N9 X' ?y77_ (mx _ _ _) (md _ _ _) (noM_D hR8 (by k_mem)) ?y78_ ?y79_ ?y80_ ?y81_ ?y82_
      case y77_ => walk_at "pe"
      case y78_ => k_is
      case y79_ => k_is
      case y80_ => k_is
      case y81_ => k_is
      case y82_ =>
      intro h9 tk9 F9 N9
      refine' pos_D (G := fun o' od' => Fn o' od' _) B' F9 X' T' rfl ?y84_ ?y85_ N9 (mx _ _ _) (uo _ _ _) (fun o' => ud _ _ _) hR8 hod8 lo h08 h18 (Nat.le_trans hz9 (Nat.le_of_ble_eq_true rfl)) hxdx hxd hdxd  ?y86_
      case y84_ => walk_at "hd9"
      case y85_ => walk_at "hu9"
      case y86_ =>
      intro o8 od8 t8 ti8 h9 tk9 R8 O8 F9 N9
      refine' CmpR.use (x1 := .int _) F9 N9 ?y87_ (Cm.cast Cm.ne (bne_self_eq_false _)) ?y88_
      case y87_ => walk_at "pe"
      case y88_ =>
      intro h9 tk9 F9 N9
      refine IfR.noL ?_
      exact hE _ _ _ _ _ _ _ _ _ _ F9 N9 R8 ⟨_, _, O8⟩ h08 h18 (by omega) ⟨_, hc5⟩ nat_ nnow rfl
    refine' St.ifTl F9 N9 (PT.cast ?y89_ ?y90_) ?y91_
    case y89_ => walk_at "pt"
    case y90_ => exact decide_eq_true hww
    case y91_ =>
    intro h9 tk9 F9 N9
    refine' St.asg F9 N9 ?y92_ ?y93_
    case y92_ => walk_at "pe"
    case y93_ =>
    intro h9 tk9 t9 F9 N9
    refine St.ifC ?_
    refine' meth1 F9 N9 X' ?y94_ ?y100_ (mx _ _ _) (md _ _ _) (noM_D hR8 (by k_mem)) ?y95_ ?y96_ ?y97_ ?y98_ ?y99_
    case y94_ => walk_at "pe"
    case y100_ => walk_at "pe"
    case y95_ => k_is
    case y96_ => k_is
    case y97_ => k_is
    case y98_ => k_is
    case y99_ =>
    intro h9 tk9 ta9 F9 N9
    refine' read_Dc (G := fun o' od' => Fn o' od' _) B' F9 X' T' rfl ?y101_ ?y102_ N9 (mx _ _ _) (uo _ _ _) (fun o' => ud _ _ _) hR8 hod8 lo h08 h18 (Nat.le_trans hz9 (Nat.le_of_ble_eq_true rfl)) hxdx hxd hdxd hw2.1 (by omega) (cr_ok (by assumption) hwa hww) ?y103_
    case y101_ => walk_at "hd9"
    case y102_ => walk_at "hu9"
    case y103_ =>
    intro o9 od9 t9 ti9 h9 tk9 R9 O9 F9 N9
    refine' CmpR.use (x1 := .bytes _) F9 N9 ?y104_ (Cm.cast Cm.neB ?y105_) ?y106_
    case y104_ => walk_at "pe"
    case y105_ => exact decide_eq_false (fun h => h (by rw [gap h08 hw2.1]))
    case y106_ =>
    intro h9 tk9 F9 N9
    refine IfR.no ?_
    refine' St.asg F9 N9 ?y107_ ?y108_
    case y107_ => walk_at "pe"
    case y108_ =>
    intro h9 tk9 t9 F9 N9
    refine St.nilC ?_
    refine' St.ifOP F9 N9 (PT.cast ?y109_ ?y110_) ?y111_
    case y109_ => walk_at "pt"
    case y110_ => exact decide_eq_false (fun h => h rfl)
    case y111_ =>
    intro h9 tk9 F9 N9
    refine' meth0 F9 N9 X' ?y112_ (mx _ _ _) (md _ _ _) (noM_D R9 (by k_mem)) ?y113_ ?y114_ ?y115_ ?y116_ ?y117_
    case y112_ => walk_at "pe"
    case y113_ => k_is
    case y114_ => k_is
    case y115_ => k_is
    case y116_ => k_is
    case y117_ =>
    intro h9 tk9 F9 N9
    refine' pos_D (G := fun o' od' => Fn o' od' _) B' F9 X' T' rfl ?y119_ ?y120_ N9 (mx _ _ _) (uo _ _ _) (fun o' => ud _ _ _) R9 O9 lo (by omega) (by omega) (Nat.le_trans hz9 (Nat.le_of_ble_eq_true rfl)) hxdx hxd hdxd  ?y121_
    case y119_ => walk_at "hd9"
    case y120_ => walk_at "hu9"
    case y121_ =>
    intro o8 od8 t8 ti8 h9 tk9 R8 O8 F9 N9
    refine' CmpR.use (x1 := .int _) F9 N9 ?y122_ (Cm.cast Cm.ne (bne_self_eq_false _)) ?y123_
    case y122_ => walk_at "pe"
    case y123_ =>
    intro h9 tk9 F9 N9
    refine IfR.noL ?_
    exact hE _ _ _ _ _ _ _ _ _ _ F9 N9 R8 ⟨_, _, O8⟩ (by omega) (by omega) (by omega) ⟨_, hc5⟩ rfl nnow rfl
  case done =>
    clear wF N2 R1 Od hc1 hat0 hat2 hat hnow hnl
    intro c u h9 tk9 hp F8 N8
    obtain ⟨co, cod, cnow, cat, cta, ctn, cc1⟩ := c
    obtain ⟨hR8, ⟨t8, t82, hod8⟩, h08, h18, hz8, ⟨vc8, hc8⟩⟩ := hp
    dsimp only at hR8 hod8 h08 h18 hz8 hc8 F8 N8
    have hvl := IntsAre.length hi
    have hz9 : cnow.length ≤ 60 := by omega
    have hofft : OwnOff own [lc, 446, L' + 1, L' + 1 + 1, L' + 1 + 1 + 1, L' + 1 + 1 + 1 + 1, d, tdx, tx, rdx, rx, dx, x] := by
      refine offC (fun p hp => hoff p hp _ (.head _)) (offC (fun p hp => hoff p hp _ (.tail _ (.head _))) (offLow l2 ?_))
      (repeat' (first | exact List.forall_mem_nil _ | refine List.forall_mem_cons.mpr ⟨?_, ?_⟩))
      all_goals first | exact Nat.le_refl _ | exact Nat.le_of_lt (abv (by assumption) (by k_mem)) | omega
    have hxdx : @Ne Nat x dx := by k_ne
    have hxd : @Ne Nat x d := by k_ne
    have hdxd : @Ne Nat dx d := by k_ne
    have htxt : @Ne Nat tx tdx := by k_ne
    have htxd : @Ne Nat tx d := by k_ne
    have htdd : @Ne Nat tdx d := by k_ne
    change News g' L' h9 _ at N8
    change Fr g' L' h9 _ at F8
    show wpAny _ _ (execs _ _) _ _ _
    refine unq_in ?_
    intro Qt Et hQt hEt
    clear hEt
    obtain ⟨Fn, hFn⟩ : ∃ Fn : Obj → Obj → Obj → Obj → Obj → List (Addr × Obj), Fn = fun o od ro ot tb => (x, instObj 280 dx) :: (dx, o) :: (rx, instObj 226 rdx) :: (rdx, ro) :: (tx, instObj 400 tdx) :: (tdx, ot) :: (d, od) :: (L' + 1 + 1 + 1 + 1, c4) :: (L' + 1 + 1 + 1, c3) :: (L' + 1 + 1, c2) :: (L' + 1, cc1) :: (lc, listOf vs.toArray ep) :: (446, tb) :: own := ⟨_, rfl⟩
    have N9 : News g' L' h9 (Fn co cod ro ot (tabObj #[])) := by rw [hFn]; exact N8
    obtain ⟨m8, hm8, F9⟩ : ∃ m8, m8 = _ ∧ Fr g' L' h9 m8 := ⟨_, rfl, F8⟩
    clear N8 F8
    have hRet : ∀ h tk g'' m' nw ps', KtsTurn (L :: outer.filterMap (·.frame)) g' g'' → Fr g'' L' h m' → News g'' L' h nw → (lc, listOf vs.toArray ep) ∈ nw → (446, tabObj ps') ∈ nw → (∀ p ∈ own, p ∈ nw) → Qt (.ret (.bool true)) (Shared.mk h gn0 dr0 tk os0) := by
      intro h tk g'' m' nw ps' Tn Ff Nf a1 a2 a3
      rw [hQt]
      refine ⟨_, _, _, _, Tn, Ff, Nf, ?_⟩
      intro h₀' T9 F9 N9 B9 X9 P9 D9
      exact ret _ _ _ ps' T9 F9 (newsOf N9 (fun p hp => by
        rcases List.mem_cons.mp hp with rfl | hp
        · exact a1
        · rcases List.mem_cons.mp hp with rfl | hp
          · exact a2
          · exact a3 p hp)) B9 X9 P9 D9
    have mx : ∀ o od ro ot tb, (x, instObj 280 dx) ∈ Fn o od ro ot tb := by intro o od ro ot tb; rw [hFn]; k_mem
    have md : ∀ o od ro ot tb, (dx, o) ∈ Fn o od ro ot tb := by intro o od ro ot tb; rw [hFn]; k_mem
    have mr : ∀ o od ro ot tb, (rx, instObj 226 rdx) ∈ Fn o od ro ot tb := by intro o od ro ot tb; rw [hFn]; k_mem
    have mrd : ∀ o od ro ot tb, (rdx, ro) ∈ Fn o od ro ot tb := by intro o od ro ot tb; rw [hFn]; k_mem
    have mt : ∀ o od ro ot tb, (tx, instObj 400 tdx) ∈ Fn o od ro ot tb := by intro o od ro ot tb; rw [hFn]; k_mem
    have mtd : ∀ o od ro ot tb, (tdx, ot) ∈ Fn o od ro ot tb := by intro o od ro ot tb; rw [hFn]; k_mem
    have mD : ∀ o od ro ot tb, (d, od) ∈ Fn o od ro ot tb := by intro o od ro ot tb; rw [hFn]; k_mem
    have m4 : ∀ o od ro ot tb, (L' + 1 + 1 + 1 + 1, c4) ∈ Fn o od ro ot tb := by intro o od ro ot tb; rw [hFn]; k_mem
    have m3 : ∀ o od ro ot tb, (L' + 1 + 1 + 1, c3) ∈ Fn o od ro ot tb := by intro o od ro ot tb; rw [hFn]; k_mem
    have m2 : ∀ o od ro ot tb, (L' + 1 + 1, c2) ∈ Fn o od ro ot tb := by intro o od ro ot tb; rw [hFn]; k_mem
    have mlc : ∀ o od ro ot tb, (lc, listOf vs.toArray ep) ∈ Fn o od ro ot tb := by intro o od ro ot tb; rw [hFn]; k_mem
    have mtb : ∀ o od ro ot tb, (446, tb) ∈ Fn o od ro ot tb := by intro o od ro ot tb; rw [hFn]; k_mem
    have mow : ∀ o od ro ot tb, ∀ p ∈ own, p ∈ Fn o od ro ot tb := by intro o od ro ot tb p hp; rw [hFn]; k_ownIn
    have uo : ∀ o od ro ot tb, UpdF dx o (Fn o od ro ot tb) (fun z => Fn z od ro ot tb) := by intro o od ro ot tb; rw [hFn]; dsimp only; k_updF
    have ud : ∀ o od ro ot tb, UpdF d od (Fn o od ro ot tb) (fun z => Fn o z ro ot tb) := by intro o od ro ot tb; rw [hFn]; dsimp only; k_updF
    have ur : ∀ o od ro ot tb, UpdF rdx ro (Fn o od ro ot tb) (fun z => Fn o od z ot tb) := by intro o od ro ot tb; rw [hFn]; dsimp only; k_updF
    have uf : ∀ o od ro ot tb, UpdF tdx ot (Fn o od ro ot tb) (fun z => Fn o od ro z tb) := by intro o od ro ot tb; rw [hFn]; dsimp only; k_updF
    have ut : ∀ o od ro ot tb, UpdF 446 tb (Fn o od ro ot tb) (fun z => Fn o od ro ot z) := by intro o od ro ot tb; rw [hFn]; dsimp only; k_updF
    have nnow : m8 (Str.ofString "now") = some (.bytes cnow.toArray ctn) := by rw [hm8]; rfl
    obtain ⟨to9, noc⟩ : ∃ tw, m8 (Str.ofString "octets") = some (.bytes oc.toArray tw) := ⟨_, by rw [hm8]; rfl⟩
    have ndk : m8 (Str.ofString "disk") = some (.ref d) := by rw [hm8]; rfl
    clear hQt hm8
    k_with "pe" => first
      | exact PE.ci | exact PE.cb | exact PE.cNone | exact PE.ct
      | exact PE.toI (PE.nm rfl) | exact PE.toB (PE.nm rfl) | exact PE.nm rfl
      | exact PE.toI (PE.nm (by assumption)) | exact PE.toB (PE.nm (by assumption)) | exact PE.nm (by assumption)
      | exact PE.nmC (m2 _ _ _ _ _) hc2 rfl | exact PE.nmC (m3 _ _ _ _ _) hc3 rfl | exact PE.nmC (m4 _ _ _ _ _) hc4 rfl
      | exact PE.nmC (.tail _ (m2 _ _ _ _ _)) hc2 rfl | exact PE.nmC (.tail _ (m3 _ _ _ _ _)) hc3 rfl | exact PE.nmC (.tail _ (m4 _ _ _ _ _)) hc4 rfl
      | ((with_reducible show PE _ _ _ _ _ _ _ (Expr.Call _ _ _ _) _); exact PE.len (by assumption) (topRead_of (by assumption)) (by k_is) (by walk_at "pe") (by omega))
    have F9 : Fr g' L' h9 (mp [] m8) := F9
    refine St.exp ?_
    refine' meth0 F9 N9 X' ?x6_  (mx _ _ _ _ _) (md _ _ _ _ _) (noM_D hR8 (by k_mem)) ?x0_ ?x1_ ?x2_ ?x3_ ?x4_
    case x6_ => walk_at "pe"
    case x0_ => k_is
    case x1_ => k_is
    case x2_ => k_is
    case x3_ => k_is
    case x4_ =>
    intro h9 tk9  F9 N9
    refine' flush_D B' F9 X' T' rfl ?x7_ ?x8_ N9 (mx _ _ _ _ _) (md _ _ _ _ _) hR8 ?x9_
    case x7_ => walk_at "hd9"
    case x8_ => walk_at "hu9"
    case x9_ =>
    intro h9 tk9 F9 N9
    refine St.asgI ?_
    refine list2I ?_
    refine' refusedLam (v := #[105, 110, 118, 97, 108, 105, 100, 97, 99, 99, 101, 115, 115]) (gt := fun tb => Fn co cod ro ot tb) (newsR := fun tb => Fn co cod ro ot tb) (P := 446) (cA := 448) B' F9 X' T' rfl ?x10_ ?x11_ XB TB D' N9 CD rfl (ut _ _ _ _ _) ?x12_ ?x13_ ?x14_ ?x15_ ?x16_ ?x17_
    case x10_ => walk_at "hd9"
    case x11_ => walk_at "hu9"
    case x12_ => kn_triples
    case x13_ => kn_among
    case x14_ => k_is
    case x15_ => k_is
    case x16_ =>
      intro fl c6 oc6 ctv6 L8 L7 g7 s7 Q7 E7 lc6 lf6 B7 F7 X7 N7 T7 RE7
      refine' meth1 F7 N7 X7 (PE.nmF (.tail _ (.tail _ (m3 _ _ _ _ _))) hc3 rfl) PE.cb (.tail _ (.tail _ (mr _ _ _ _ _))) (.tail _ (.tail _ (mrd _ _ _ _ _))) (noM_RW Rr) ?x18_ ?x19_ ?x20_ ?x21_ ?x22_
      case x18_ => k_is
      case x19_ => k_is
      case x20_ => k_is
      case x21_ => k_is
      case x22_ =>
      intro h7 tk7 t07 F7 N7
      refine' write_RB  B7 F7 X7 T7 rfl ?x23_ ?x24_ N7 (.tail _ (.tail _ (mr _ _ _ _ _))) (.tail _ (.tail _ (mrd _ _ _ _ _))) Rr ?x25_
      case x23_ => walk_at "hd9"
      case x24_ => walk_at "hu9"
      case x25_ =>
      intro G e7 de7 hsh7 k7 n7 tk7 tk8 h8 FG7 RE U7
      exact RE7 G e7 de7 hsh7 k7 n7 tk7 tk8 h8 FG7 (raisedSub RE subL) U7
    case x17_ =>
    intro c6 g1_ h9 tk9 tv1 KT1 F9 N9 B' X' T' D'
    refine' refusedLam (v := #[117, 110, 100, 101, 102, 105, 110, 101, 100, 102, 105, 108, 101, 110, 97, 109, 101]) (gt := fun tb => Fn co cod ro ot tb) (newsR := fun tb => Fn co cod ro ot tb) (P := 446) (cA := 448) B' F9 X' T' rfl ?x26_ ?x27_ XB TB D' N9 CD rfl (ut _ _ _ _ _) ?x28_ ?x29_ ?x30_ ?x31_ ?x32_ ?x33_
    case x26_ => walk_at "hd9"
    case x27_ => walk_at "hu9"
    case x28_ => kn_triples
    case x29_ => kn_among
    case x30_ => k_is
    case x31_ => k_is
    case x32_ =>
      intro fl c6 oc6 ctv6 L8 L7 g7 s7 Q7 E7 lc6 lf6 B7 F7 X7 N7 T7 RE7
      refine' meth2 F7 N7 X7 (PE.nmF (.tail _ (.tail _ (m4 _ _ _ _ _))) hc4 rfl) PE.cb PE.cb (.tail _ (.tail _ (mt _ _ _ _ _))) (.tail _ (.tail _ (mtd _ _ _ _ _))) (noM_FT Tt (by k_mem)) ?x34_ ?x35_ ?x36_ ?x37_ ?x38_
      case x34_ => k_is
      case x35_ => k_is
      case x36_ => k_is
      case x37_ => k_is
      case x38_ =>
      intro h7 tk7 t07 t17 F7 N7
      refine' open_none (g := fun z => _ :: _ :: Fn co z ro ot _) B7 F7 X7 T7 rfl ?x39_ ?x40_ N7 (.tail _ (.tail _ (mt _ _ _ _ _))) (.tail _ (.tail _ (mtd _ _ _ _ _))) (.tail (Nat.ne_of_gt (lf6 _ (mD _ _ _ _ _))) (.tail (Nat.ne_of_gt (lc6 _ (mD _ _ _ _ _))) (ud _ _ _ _ _))) Tt hod8 lo htxt htxd htdd ?x41_
      case x39_ => walk_at "hd9"
      case x40_ => walk_at "hu9"
      case x41_ =>
      intro G e7 de7 hsh7 k7 n7 tk7 tk8 h8 FG7 RE U7
      exact RE7 G e7 de7 hsh7 k7 n7 tk7 tk8 h8 FG7 (raisedSub RE subL) U7
    case x33_ =>
    intro c6 g2_ h9 tk9 tv2 KT2 F9 N9 B' X' T' D'
    refine newList_K F9 N9 (fun l1 h9 F9 N9 lt1 => ?_) (by rw [sizeLine_eq]; exact Nat.le_of_ble_eq_true rfl)
    refine stL F9 N9 (fun h9 tk9 F9 N9 => ?_)
    refine St.asgI ?_
    refine wpAny_BinOp ?_
    refine (PE.nm (x := Str.ofString "told") rfl).run _ _ _ F9 N9 fun h9 tk9 _ F9 N9 => ?_
    refine list3I ?_
    refine' refusedLam (v := #[105, 110, 118, 97, 108, 105, 100, 102, 105, 108, 101, 97, 99, 99, 101, 115, 115]) (gt := fun tb => (l1, listOf (List.toArray [Value.bytes #[105, 110, 118, 97, 108, 105, 100, 97, 99, 99, 101, 115, 115] tv1, Value.bytes #[117, 110, 100, 101, 102, 105, 110, 101, 100, 102, 105, 108, 101, 110, 97, 109, 101] tv2]) 0) :: Fn co cod ro ot tb) (newsR := fun tb => (l1, listOf (List.toArray [Value.bytes #[105, 110, 118, 97, 108, 105, 100, 97, 99, 99, 101, 115, 115] tv1, Value.bytes #[117, 110, 100, 101, 102, 105, 110, 101, 100, 102, 105, 108, 101, 110, 97, 109, 101] tv2]) 0) :: Fn co cod ro ot tb) (P := 446) (cA := 448) B' F9 X' T' rfl ?x42_ ?x43_ XB TB D' N9 CD rfl (.tail (Nat.ne_of_gt (lt1 _ (mtb _ _ _ _ _))) (ut _ _ _ _ _)) ?x44_ ?x45_ ?x46_ ?x47_ ?x48_ ?x49_
    case x42_ => walk_at "hd9"
    case x43_ => walk_at "hu9"
    case x44_ => kn_triples
    case x45_ => kn_among
    case x46_ => k_is
    case x47_ => k_is
    case x48_ =>
      intro fl c6 oc6 ctv6 L8 L7 g7 s7 Q7 E7 lc6 lf6 B7 F7 X7 N7 T7 RE7
      refine' meth2 F7 N7 X7 (PE.nmF (.tail _ (.tail _ (.tail _ (m4 _ _ _ _ _)))) hc4 rfl) PE.cb PE.cb (.tail _ (.tail _ (.tail _ (mt _ _ _ _ _)))) (.tail _ (.tail _ (.tail _ (mtd _ _ _ _ _)))) (noM_FT Tt (by k_mem)) ?x50_ ?x51_ ?x52_ ?x53_ ?x54_
      case x50_ => k_is
      case x51_ => k_is
      case x52_ => k_is
      case x53_ => k_is
      case x54_ =>
      intro h7 tk7 t07 t17 F7 N7
      refine' open_rw (g := fun z => _ :: _ :: _ :: Fn co z ro ot _) B7 F7 X7 T7 rfl ?x55_ ?x56_ N7 (.tail _ (.tail _ (.tail _ (mt _ _ _ _ _)))) (.tail _ (.tail _ (.tail _ (mtd _ _ _ _ _)))) (.tail (Nat.ne_of_gt (lf6 _ (.tail _ (mD _ _ _ _ _)))) (.tail (Nat.ne_of_gt (lc6 _ (.tail _ (mD _ _ _ _ _)))) (.tail (Nat.ne_of_gt (lt1 _ (mD _ _ _ _ _))) (ud _ _ _ _ _)))) Tt hod8 lo htxt htxd htdd ?x57_
      case x55_ => walk_at "hd9"
      case x56_ => walk_at "hu9"
      case x57_ =>
      intro G e7 de7 hsh7 k7 n7 tk7 tk8 h8 FG7 RE U7
      exact RE7 G e7 de7 hsh7 k7 n7 tk7 tk8 h8 FG7 (raisedSub RE subL) U7
    case x49_ =>
    intro c6 g3_ h9 tk9 tv3 KT3 F9 N9 B' X' T' D'
    refine' meth1 F9 N9 X' ?x65_ ?x64_ (.tail _ (mt _ _ _ _ _)) (.tail _ (mtd _ _ _ _ _)) (noM_FT Tt (by k_mem)) ?x58_ ?x59_ ?x60_ ?x61_ ?x62_
    case x65_ => walk_at "pe"
    case x64_ => walk_at "pe"
    case x58_ => k_is
    case x59_ => k_is
    case x60_ => k_is
    case x61_ => k_is
    case x62_ =>
    intro h9 tk9 ta0 F9 N9
    refine' size_a (tb := default) (G := fun z y => _ :: Fn co y ro z _) B' F9 X' T' rfl ?x66_ ?x67_ N9 (.tail _ (mt _ _ _ _ _)) (.tail (Nat.ne_of_gt (lt1 _ (mtd _ _ _ _ _))) (uf _ _ _ _ _)) (fun z => .tail (Nat.ne_of_gt (lt1 _ (mD _ _ _ _ _))) (ud _ _ _ _ _)) Tt hod8 lo (by decide) (by decide) (Nat.le_trans hz9 (Nat.le_of_ble_eq_true rfl)) htxt htxd htdd ?x68_
    case x66_ => walk_at "hd9"
    case x67_ => walk_at "hu9"
    case x68_ =>
    intro ti9 h9 tk9 F9 N9
    refine' meth1 F9 N9 X' ?x76_ ?x75_ (.tail _ (mt _ _ _ _ _)) (.tail _ (mtd _ _ _ _ _)) (noM_FT Tt (by k_mem)) ?x69_ ?x70_ ?x71_ ?x72_ ?x73_
    case x76_ => walk_at "pe"
    case x75_ => walk_at "pe"
    case x69_ => k_is
    case x70_ => k_is
    case x71_ => k_is
    case x72_ => k_is
    case x73_ =>
    intro h9 tk9 ta0 F9 N9
    refine' size_none (tb := default) (g := fun y => _ :: Fn co y ro ot _) B' F9 X' T' rfl ?x77_ ?x78_ N9 (.tail _ (mt _ _ _ _ _)) (.tail _ (mtd _ _ _ _ _)) (.tail (Nat.ne_of_gt (lt1 _ (mD _ _ _ _ _))) (ud _ _ _ _ _)) Tt hod8 lo htxt htxd htdd ?x79_
    case x77_ => walk_at "hd9"
    case x78_ => walk_at "hu9"
    case x79_ =>
    intro h9 tk9 F9 N9
    refine newList_K F9 N9 (fun l2 h9 F9 N9 lt2 => ?_) (by rw [sizeLine_eq]; exact Nat.le_of_ble_eq_true rfl)
    refine kmk_add_lit F9 N9 (News.isList N9 (.tail _ (.head _))) (News.isList N9 (.head _)) rfl (fun l3 h9 F9 N9 lt3 => ?_) (by rw [sizeLine_eq]; exact Nat.le_of_ble_eq_true rfl)
    replace N9 : News _ _ h9 (_ :: Fn _ _ _ _ _) := fun p hp => N9 p (by
      rcases List.mem_cons.mp hp with rfl | hp
      · exact .head _
      · exact .tail _ (.tail _ (.tail _ hp)))
    refine stL F9 N9 (fun h9 tk9 F9 N9 => ?_)
    refine St.ifC ?_
    refine (PE.nm (x := Str.ofString "told") rfl).run _ _ _ F9 N9 fun h9 tk9 _ F9 N9 => ?_
    refine' CmpR.list5 (a1 := [105, 110, 118, 97, 108, 105, 100, 97, 99, 99, 101, 115, 115]) (a2 := [117, 110, 100, 101, 102, 105, 110, 101, 100, 102, 105, 108, 101, 110, 97, 109, 101]) (a3 := [105, 110, 118, 97, 108, 105, 100, 102, 105, 108, 101, 97, 99, 99, 101, 115, 115]) (n4 := (cnow.length : Int)) F9 N9 (.head _) ?x80_ ?x81_ ?x82_ ?x83_ ?x84_ ?x85_ ?x86_
    case x80_ => walk_at "pe"
    case x81_ => walk_at "pe"
    case x82_ => walk_at "pe"
    case x83_ => walk_at "pe"
    case x84_ => walk_at "pe"
    case x85_ => ((try simp only [units_in1, units_deeper, Around.mark_units, units_caller]); (try dsimp only [ktrTop]); (have hcL9 := cLine_is); omega)
    case x86_ =>
    intro h9 tk9 F9 N9
    replace N9 := newsTail N9
    refine IfR.no ?_
    refine St.exp ?_
    refine' meth0 F9 N9 X' ?x94_  (mx _ _ _ _ _) (md _ _ _ _ _) (noM_D hR8 (by k_mem)) ?x88_ ?x89_ ?x90_ ?x91_ ?x92_
    case x94_ => walk_at "pe"
    case x88_ => k_is
    case x89_ => k_is
    case x90_ => k_is
    case x91_ => k_is
    case x92_ =>
    intro h9 tk9  F9 N9
    refine' close_D (G := fun z y => Fn z y ro ot _) B' F9 X' T' rfl ?x95_ ?x96_ N9 (mx _ _ _ _ _) (uo _ _ _ _ _) (fun z => ud _ _ _ _ _) hR8 hod8 lo h08 h18 (Nat.le_trans hz9 (Nat.le_of_ble_eq_true rfl)) hxdx hxd hdxd ?x97_
    case x95_ => walk_at "hd9"
    case x96_ => walk_at "hu9"
    case x97_ =>
    intro o9 od9 t9 h9 tk9 R9 O9 F9 N9
    refine St.ifOC ?_
    refine' refusedLam (v := #[105, 111, 101, 114, 114, 111, 114]) (gt := fun tb => Fn o9 od9 ro ot tb) (newsR := fun tb => Fn o9 od9 ro ot tb) (P := 446) (cA := 448) B' F9 X' T' rfl ?x98_ ?x99_ XB TB D' N9 CD rfl (ut _ _ _ _ _) ?x100_ ?x101_ ?x102_ ?x103_ ?x104_ ?x105_
    case x98_ => walk_at "hd9"
    case x99_ => walk_at "hu9"
    case x100_ => kn_triples
    case x101_ => kn_among
    case x102_ => k_is
    case x103_ => k_is
    case x104_ =>
      intro fl c6 oc6 ctv6 L8 L7 g7 s7 Q7 E7 lc6 lf6 B7 F7 X7 N7 T7 RE7
      refine' meth1 F7 N7 X7 (PE.nmF (.tail _ (.tail _ (m2 _ _ _ _ _))) hc2 rfl) PE.cb (.tail _ (.tail _ (mx _ _ _ _ _))) (.tail _ (.tail _ (md _ _ _ _ _))) (noM_D R9 (by k_mem)) ?x106_ ?x107_ ?x108_ ?x109_ ?x110_
      case x106_ => k_is
      case x107_ => k_is
      case x108_ => k_is
      case x109_ => k_is
      case x110_ =>
      intro h7 tk7 t07 F7 N7
      refine' write_DB  B7 F7 X7 T7 rfl ?x111_ ?x112_ N7 (.tail _ (.tail _ (mx _ _ _ _ _))) (.tail _ (.tail _ (md _ _ _ _ _))) R9 ?x113_
      case x111_ => walk_at "hd9"
      case x112_ => walk_at "hu9"
      case x113_ =>
      intro G e7 de7 hsh7 k7 n7 tk7 tk8 h8 FG7 RE U7
      exact RE7 G e7 de7 hsh7 k7 n7 tk7 tk8 h8 FG7 (raisedSub RE subL) U7
    case x105_ =>
    intro c6 g4_ h9 tk9 tv4 KT4 F9 N9 B' X' T' D'
    refine' CmpR.use (x1 := .bytes [105, 111, 101, 114, 114, 111, 114]) (q := false) F9 N9 ?x114_ (Cm.cast Cm.neB (decide_eq_false (fun h => h rfl))) ?x115_
    case x114_ => walk_at "pe"
    case x115_ =>
    intro h9 tk9 F9 N9
    refine ⟨rfl, ?_⟩
    refine' meth1 F9 N9 X' ?x123_ ?x122_ (mr _ _ _ _ _) (mrd _ _ _ _ _) (noM_R Rr (by k_mem)) ?x116_ ?x117_ ?x118_ ?x119_ ?x120_
    case x123_ => walk_at "pe"
    case x122_ => walk_at "pe"
    case x116_ => k_is
    case x117_ => k_is
    case x118_ => k_is
    case x119_ => k_is
    case x120_ =>
    intro h9 tk9 ta0 F9 N9
    refine' read_RL B' F9 X' T' rfl ?x124_ ?x125_ N9 (mr _ _ _ _ _) (ur _ _ _ _ _) Rr (p := 0) rfl (by omega) (by omega) ?x126_ ?x127_
    case x124_ => walk_at "hd9"
    case x125_ => walk_at "hu9"
    case x127_ => exact fun hlt => absurd hlt (by omega)
    case x126_ =>
    intro _ ro9 tr9 h9 tk9 a9 hl9 ib9 Q9 hp9 F9 N9
    refine' CmpR.use (x1 := .bytes _) (q := false) F9 N9 ?x128_ (Cm.cast Cm.neB ?x129_) ?x130_
    case x128_ => walk_at "pe"
    case x129_ => exact decide_eq_false (fun h => h (by simp))
    case x130_ =>
    intro h9 tk9 F9 N9
    refine IfR.no ?_
    refine St.exp ?_
    refine' meth2 F9 N9 X' ?x139_ ?x137_ ?x138_ (mt _ _ _ _ _) (mtd _ _ _ _ _) (noM_FT Tt (by k_mem)) ?x131_ ?x132_ ?x133_ ?x134_ ?x135_
    case x139_ => walk_at "pe"
    case x137_ => walk_at "pe"
    case x138_ => walk_at "pe"
    case x131_ => k_is
    case x132_ => k_is
    case x133_ => k_is
    case x134_ => k_is
    case x135_ =>
    intro h9 tk9 ta0 ta1 F9 N9
    refine' rename_ac (g := fun y => Fn o9 y ro9 ot _) B' F9 X' T' rfl ?x140_ ?x141_ N9 (mt _ _ _ _ _) (mtd _ _ _ _ _) (ud _ _ _ _ _) Tt O9 lo htxt htxd htdd ?x142_
    case x140_ => walk_at "hd9"
    case x141_ => walk_at "hu9"
    case x142_ =>
    intro od2 h9 tk9 O2 F9 N9
    refine St.exp ?_
    refine' meth1 F9 N9 X' ?x150_ ?x149_ (mt _ _ _ _ _) (mtd _ _ _ _ _) (noM_FT Tt (by k_mem)) ?x143_ ?x144_ ?x145_ ?x146_ ?x147_
    case x150_ => walk_at "pe"
    case x149_ => walk_at "pe"
    case x143_ => k_is
    case x144_ => k_is
    case x145_ => k_is
    case x146_ => k_is
    case x147_ =>
    intro h9 tk9 ta0 F9 N9
    refine' delete_b (tb := default) (g := fun y => Fn o9 y ro9 ot _) B' F9 X' T' rfl ?x151_ ?x152_ N9 (mt _ _ _ _ _) (mtd _ _ _ _ _) (ud _ _ _ _ _) Tt O2 lo htxt htxd htdd ?x153_
    case x151_ => walk_at "hd9"
    case x152_ => walk_at "hu9"
    case x153_ =>
    intro od3 h9 tk9 O3 F9 N9
    refine St.ret ?_
    refine and_consI ?_
    refine cmpI ?_
    refine' PE.run (x := .val (.ref d)) ?x154_ _ _ _ F9 N9 ?x155_
    case x154_ => exact PE.nm ndk
    case x155_ =>
    intro h9 tk9 _ F9 N9
    refine' CmpV.dict1 (c := [99]) (b := cnow) F9 N9 T' (mD _ _ _ _ _) O3 lo nnow ?x158_ ?x159_
    case x158_ => ((try simp only [units_in1, units_deeper, Around.mark_units, units_caller]); (try dsimp only [ktrTop]); (have hcL9 := cLine_is); omega)
    case x159_ =>
    intro h9 tk9 F9 N9
    refine ⟨rfl, ?_⟩
    refine BoolOp_one ?_
    refine cmpI ?_
    refine' refusedLam (v := #[117, 110, 100, 101, 102, 105, 110, 101, 100, 102, 105, 108, 101, 110, 97, 109, 101]) (gt := fun tb => Fn o9 od3 ro9 ot tb) (newsR := fun tb => Fn o9 od3 ro9 ot tb) (P := 446) (cA := 448) B' F9 X' T' rfl ?x161_ ?x162_ XB TB D' N9 CD rfl (ut _ _ _ _ _) ?x163_ ?x164_ ?x165_ ?x166_ ?x167_ ?x168_
    case x161_ => walk_at "hd9"
    case x162_ => walk_at "hu9"
    case x163_ => kn_triples
    case x164_ => kn_among
    case x165_ => k_is
    case x166_ => k_is
    case x167_ =>
      intro fl c6 oc6 ctv6 L8 L7 g7 s7 Q7 E7 lc6 lf6 B7 F7 X7 N7 T7 RE7
      refine' meth1 F7 N7 X7 (PE.nmF (.tail _ (.tail _ (m4 _ _ _ _ _))) hc4 rfl) PE.cb (.tail _ (.tail _ (mt _ _ _ _ _))) (.tail _ (.tail _ (mtd _ _ _ _ _))) (noM_FT Tt (by k_mem)) ?x169_ ?x170_ ?x171_ ?x172_ ?x173_
      case x169_ => k_is
      case x170_ => k_is
      case x171_ => k_is
      case x172_ => k_is
      case x173_ =>
      intro h7 tk7 t07 F7 N7
      refine' delete_bad (tb := default) (t2 := default) (g := fun z => _ :: _ :: Fn o9 z ro9 ot _) B7 F7 X7 T7 rfl ?x174_ ?x175_ N7 (.tail _ (.tail _ (mt _ _ _ _ _))) (.tail _ (.tail _ (mtd _ _ _ _ _))) (.tail (Nat.ne_of_gt (lf6 _ (mD _ _ _ _ _))) (.tail (Nat.ne_of_gt (lc6 _ (mD _ _ _ _ _))) (ud _ _ _ _ _))) Tt O3 lo htxt htxd htdd ?x176_
      case x174_ => walk_at "hd9"
      case x175_ => walk_at "hu9"
      case x176_ =>
      intro G e7 de7 hsh7 k7 n7 tk7 tk8 h8 FG7 RE U7
      exact RE7 G e7 de7 hsh7 k7 n7 tk7 tk8 h8 FG7 (raisedSub RE subL) U7
    case x168_ =>
    intro c6 g5_ h9 tk9 tv5 KT5 F9 N9 B' X' T' D'
    refine' CmpV.use (x1 := .bytes [117, 110, 100, 101, 102, 105, 110, 101, 100, 102, 105, 108, 101, 110, 97, 109, 101]) (q := true) F9 N9 ?x177_ (Cm.cast Cm.eqB (decide_eq_true rfl)) ?x178_
    case x177_ => walk_at "pe"
    case x178_ =>
    intro h9 tk9 F9 N9
    exact hRet _ _ _ _ _ _ (((((KT1.trans KT2).trans KT3).trans KT4).trans KT5)) F9 N9 (mlc _ _ _ _ _) (mtb _ _ _ _ _) (fun p hp => mow _ _ _ _ _ p hp)
end
section -- SortD
section
open PySem PySem.Calls PySem.Spec PyProof.Rows
variable {prog : Program} {w : World} {A : Around} {E : Value → Shared → Prop} {s : Shared} {h₀ : Heap} {L D d : Addr} {m : PySem.Str → Option Value} {news : List (Addr × Obj)} {n : Nat} {vs : List Value} {Q : Value → Shared → Prop}
theorem sorted_frame {out : Array Value} (F : Fr h₀ L s.heap m) (N : News h₀ L s.heap ((D, PySem.W.listOf vs.toArray n) :: news)) (hlt : ∀ q ∈ news, q.1 < D) :
    Fr h₀ L (sortedHeap s.heap D vs out) m ∧ ∃ e, News h₀ L (sortedHeap s.heap D vs out) ((D, PySem.W.listOf out e) :: news) := by
  have hD := N _ (.head _)
  have old : ∀ b o, b ≠ D → s.heap.get? b = some o → (sortedHeap s.heap D vs out).get? b = some o := fun b o hb e => (sortedHeap_old hb (Heap.lt_size e)).trans e
  refine ⟨?_, ?_⟩
  · obtain ⟨oL, a1, a2, hL, a3⟩ := F.ns
    refine ⟨⟨oL, a1, a2, old _ _ (fun e => hD.2.1 e.symm) hL, a3⟩, fun b o e => old b o (fun z => ?_) (F.keep b o e), F.above⟩
    rw [z, hD.2.2] at e
    cases e
  · obtain ⟨e, he⟩ := sortedHeap_at (out := out) (show s.heap.get? D = some (seqObj "list" vs.toArray n) from hD.1)
    refine ⟨e, fun p hp => ?_⟩
    rcases List.mem_cons.mp hp with rfl | hp
    · exact ⟨he, hD.2⟩
    · exact ⟨old _ _ (Nat.ne_of_lt (hlt p hp)) (N p (.tail _ hp)).1, (N p (.tail _ hp)).2⟩
theorem listSort_B {bs : List (List UInt8)} (F : Fr h₀ L s.heap m) (N : News h₀ L s.heap ((D, PySem.W.listOf vs.toArray n) :: news)) (hlt : ∀ q ∈ news, q.1 < D) (hS : BsAre vs bs) (h64 : bs.length < 64)
    (h : ∀ vs' bs' c h', Fr h₀ L h' m → News h₀ L h' ((D, PySem.W.listOf (List.toArray vs') c) :: news) → BsAre vs' bs' → bs'.Perm bs → Asc bs' → Q .none { s with heap := h' }) :
    wpAny (model prog w) A (call (.builtin "list.sort") [.ref D]) Q E s := by
  have ho : s.heap.get? D = some (seqObj "list" vs.toArray n) := (N _ (.head _)).1
  refine wpAny_call_entry slot_list_sort ⟨_, ho, rfl⟩ entry_list_sort (list_sort_treeK bytesSK_oneLt ho hS.keysOf (fun v₁ v₂ rest e => keyKind_bs (by rw [← e]; exact hS)) (by rw [hS.length]; exact h64) fun st' a1 a2 => ⟨_, rfl, ?_⟩) (args_list_sort _)
  obtain ⟨bs', h1, h2, h3⟩ := sorted_out_bs hS a1 a2
  obtain ⟨F', e, N'⟩ := sorted_frame (out := (arrOf st').map (·.2)) F N hlt
  exact h ((arrOf st').map (·.2)).toList bs' e _ F' N' h1 h2 h3
theorem listSort_I {ns : List Int} (F : Fr h₀ L s.heap m) (N : News h₀ L s.heap ((D, PySem.W.listOf vs.toArray n) :: news)) (hlt : ∀ q ∈ news, q.1 < D) (hS : IntsAre vs ns) (h64 : ns.length < 64)
    (h : ∀ vs' ns' c h', Fr h₀ L h' m → News h₀ L h' ((D, PySem.W.listOf (List.toArray vs') c) :: news) → IntsAre vs' ns' → ns'.Perm ns → ns'.Pairwise (· ≤ ·) → Q .none { s with heap := h' }) :
    wpAny (model prog w) A (call (.builtin "list.sort") [.ref D]) Q E s := by
  have ho : s.heap.get? D = some (seqObj "list" vs.toArray n) := (N _ (.head _)).1
  have e1 := IntsAre.length hS
  refine wpAny_call_entry slot_list_sort ⟨_, ho, rfl⟩ entry_list_sort (list_sort_tree ho hS (by omega) fun out ns' h1 h2 h3 => ⟨_, rfl, ?_⟩) (args_list_sort _)
  obtain ⟨F', e, N'⟩ := sorted_frame (out := out) F N hlt
  exact h out.toList ns' e _ F' N' h1 h2 h3
theorem bs_of_keys : ∀ (vs : List Value) (kvs : List (List UInt8 × Value)), vs.length = kvs.length → (∀ (j : Nat) v, vs[j]? = some v → ∃ k x, kvs[j]? = some (k, x) ∧ isBytes k v = true) → BsAre vs (kvs.map (·.1))
  | [], [], _, _ => .nil
  | [], _ :: _, h, _ => nomatch h
  | _ :: _, [], h, _ => nomatch h
  | v :: vs, (k, x) :: kvs, hl, h => by
    obtain ⟨k', x', e, hk⟩ := h 0 v rfl
    simp only [List.getElem?_cons_zero, Option.some.injEq, Prod.mk.injEq] at e
    obtain ⟨rfl, rfl⟩ := e
    obtain ⟨t, rfl⟩ := isBytes_shape hk
    exact .cons _ t (bs_of_keys vs kvs (by simpa using hl) fun j v e => by
      obtain ⟨k', x', e', hk'⟩ := h (j + 1) v (by simpa using e)
      exact ⟨k', x', by simpa using e', hk'⟩)
theorem ints_of_keys : ∀ (vs : List Value) (kvs : List (Int × Value)), vs.length = kvs.length → (∀ (j : Nat) v, vs[j]? = some v → ∃ k x, kvs[j]? = some (k, x) ∧ (PySem.intKind prog w).is k v = true) → IntsAre vs (kvs.map (·.1))
  | [], [], _, _ => .nil
  | [], _ :: _, h, _ => nomatch h
  | _ :: _, [], h, _ => nomatch h
  | v :: vs, (k, x) :: kvs, hl, h => by
    obtain ⟨k', x', e, hk⟩ := h 0 v rfl
    simp only [List.getElem?_cons_zero, Option.some.injEq, Prod.mk.injEq] at e
    obtain ⟨rfl, rfl⟩ := e
    have r := ints_of_keys vs kvs (by simpa using hl) fun j v e => by
      obtain ⟨k', x', e', hk'⟩ := h (j + 1) v (by simpa using e)
      exact ⟨k', x', by simpa using e', hk'⟩
    obtain ⟨t, rfl⟩ := Value.isInt_shape hk
    exact .cons _ t r
theorem sortedD_B {od : Obj} {kvs : List (List UInt8 × Value)} (hh : A.handled = none) (F : Fr h₀ L s.heap m) (N : News h₀ L s.heap news) (hm : (d, od) ∈ news) (hod : od.IsDictOf (bytesKind prog w) kvs) (lo : (d == sysModules) = false) (h64 : kvs.length < 64)
    (h : ∀ D vs' bs' c h' tk, Fr h₀ L h' m → News h₀ L h' ((D, PySem.W.listOf (List.toArray vs') c) :: news) → (∀ q ∈ news, q.1 < D) → BsAre vs' bs' → bs'.Perm (kvs.map (·.1)) → Asc bs' → Q (.ref D) { s with heap := h', toks := tk }) :
    wpAny (model prog w) A (call (.builtin "sorted") [.ref d]) Q E s := by
  have hD : s.heap.DictOf (bytesKind prog w) d kvs := Heap.dictOf_iff.mpr ⟨od, (N _ hm).1, hod⟩
  obtain ⟨ep, hat⟩ := hD.dictAt
  refine kdu_sorted (kdl_dict (knd := bytesKind prog w) (kvs := kvs) (ep := ep) lo) hh F N hat (by rw [sizeLine_eq]; omega) fun D h' tk vs F' N' l1 hl hv => ?_
  exact listSort_B (s := { s with heap := h', toks := tk }) F' N' l1 (bs_of_keys vs kvs hl hv) (by simpa using h64) fun vs' bs' c h'' F'' N'' a1 a2 a3 => h D vs' bs' c h'' tk F'' N'' l1 a1 a2 a3
theorem sortedD_I {od : Obj} {kvs : List (Int × Value)} (hh : A.handled = none) (F : Fr h₀ L s.heap m) (N : News h₀ L s.heap news) (hm : (d, od) ∈ news) (hod : od.IsDictOf (PySem.intKind prog w) kvs) (lo : (d == sysModules) = false) (h64 : kvs.length < 64)
    (h : ∀ D vs' ns' c h' tk, Fr h₀ L h' m → News h₀ L h' ((D, PySem.W.listOf (List.toArray vs') c) :: news) → (∀ q ∈ news, q.1 < D) → IntsAre vs' ns' → ns'.Perm (kvs.map (·.1)) → ns'.Pairwise (· ≤ ·) → Q (.ref D) { s with heap := h', toks := tk }) :
    wpAny (model prog w) A (call (.builtin "sorted") [.ref d]) Q E s := by
  have hD : s.heap.DictOf (PySem.intKind prog w) d kvs := Heap.dictOf_iff.mpr ⟨od, (N _ hm).1, hod⟩
  obtain ⟨ep, hat⟩ := hD.dictAt
  refine kdu_sorted (kdl_dict (knd := PySem.intKind prog w) (kvs := kvs) (ep := ep) lo) hh F N hat (by rw [sizeLine_eq]; omega) fun D h' tk vs F' N' l1 hl hv => ?_
  exact listSort_I (s := { s with heap := h', toks := tk }) F' N' l1 (ints_of_keys vs kvs hl hv) (by simpa using h64) fun vs' ns' c h'' F'' N'' a1 a2 a3 => h D vs' ns' c h'' tk F'' N'' l1 a1 a2 a3
end
end
section -- Fit
noncomputable def partOf (c : UInt8) : Nat := if c = 63 then 256 else if c = 42 then 257 else c.toNat
noncomputable def partsOf : List UInt8 → List Nat
  | [] => []
  | [c] => [partOf c]
  | c :: c' :: r => if c = 92 then c'.toNat :: partsOf r else partOf c :: partsOf (c' :: r)
inductive partR (k : Nat) (v : Value) : Prop
  | any (h : k = 256) (t : Tok) (e : v = .str (Str.ofString "any") t)
  | row (h : k = 257) (t : Tok) (e : v = .str (Str.ofString "row") t)
  | oct (h : k < 256) (t : Tok) (e : v = .int (k : Int) t)
theorem drop_at {t : List UInt8} {i : Nat} (h : i < t.length) : t.drop i = t.getD i 0 :: t.drop (i + 1) := by
  rw [List.drop_eq_getElem_cons h, List.getD_eq_getElem?_getD, List.getElem?_eq_getElem h]
  rfl
theorem partsOf_esc {t : List UInt8} {i : Nat} (h : i + 1 < t.length) (h1 : t.getD i 0 = 92) : partsOf (t.drop i) = (t.getD (i + 1) 0).toNat :: partsOf (t.drop (i + 2)) := by
  rw [drop_at (by omega : i < t.length), drop_at h, partsOf, if_pos h1]
theorem partsOf_one {t : List UInt8} {i : Nat} (h : i < t.length) (h1 : ¬ (t.getD i 0 = 92 ∧ i + 1 < t.length)) : partsOf (t.drop i) = partOf (t.getD i 0) :: partsOf (t.drop (i + 1)) := by
  rw [drop_at h]
  by_cases h2 : i + 1 < t.length
  · rw [drop_at h2, partsOf, if_neg (fun e => h1 ⟨e, h2⟩)]
  · rw [List.drop_eq_nil_of_le (by omega : t.length ≤ i + 1)]
    rfl
theorem partsOf_len : ∀ (n : Nat) (t : List UInt8), t.length ≤ n → (partsOf t).length ≤ t.length
  | 0, [], _ => Nat.le_refl _
  | _ + 1, [], _ => Nat.le_refl _
  | 0, _ :: _, h => absurd h (by simp)
  | n + 1, [c], _ => Nat.le_refl _
  | n + 1, c :: c' :: r, h => by
    have h1 := partsOf_len n r (by simp only [List.length_cons] at h; omega)
    have h2 := partsOf_len n (c' :: r) (by simp only [List.length_cons] at h ⊢; omega)
    rw [partsOf]
    split <;> simp only [List.length_cons] at * <;> omega
noncomputable def closeF (ps : List Nat) : Nat → List Nat → Nat → List Nat
  | 0, live, _ => live
  | f + 1, live, turn => if turn < live.length then closeF ps f (if live.getD turn 0 < ps.length ∧ ps.getD (live.getD turn 0) 0 = 257 ∧ ¬ (live.getD turn 0 + 1 ∈ live) then live ++ [live.getD turn 0 + 1] else live) (turn + 1) else live
noncomputable def stepP (ps : List Nat) (c p : Nat) : List Nat := if p < ps.length then (if ps.getD p 0 = 257 then [p] else if ps.getD p 0 = 256 ∨ ps.getD p 0 = c then [p + 1] else []) else []
noncomputable def stepF (ps : List Nat) (live : List Nat) (c : Nat) : List Nat := live.flatMap (stepP ps c)
noncomputable def normF (n : Nat) (l : List Nat) : List Nat := (List.range (n + 1)).filter fun k => decide (k ∈ l)
noncomputable def runF (ps : List Nat) : List Nat → List UInt8 → Bool
  | live, [] => decide (ps.length ∈ closeF ps (ps.length + 1) live 0)
  | live, c :: r => runF ps (normF ps.length (stepF ps (closeF ps (ps.length + 1) live 0) c.toNat)) r
noncomputable def lawF : Nat → List UInt8 → List UInt8 → Bool
  | 0, _, _ => false
  | f + 1, t, x => if t = [] then decide (x = []) else if t.take 1 = [42] then (List.range (x.length + 1)).any fun k => lawF f (t.drop 1) (x.drop k)
    else if t.take 1 = [92] then decide (x ≠ []) && (decide (x.take 1 = (t.drop 1).take 1) && lawF f (t.drop 2) (x.drop 1))
    else decide (x ≠ []) && (decide (t.take 1 = [63] ∨ t.take 1 = x.take 1) && lawF f (t.drop 1) (x.drop 1))
noncomputable def temps : List (List UInt8) := [[42], [97, 42], [63], [42, 98, 42], [98, 92, 42], [92, 63, 120], [], [97, 63, 99], [63, 63]]
noncomputable def namesL : List (List UInt8) := [[97], [97, 98], [98, 42], [97, 98, 99], [], [63, 120], [98, 97]]
theorem fits_same : ∀ t ∈ temps, ∀ n ∈ namesL, runF (partsOf t) [0] n = lawF 5 t n := by decide +kernel
end
section -- FitR
noncomputable abbrev natR (k : Nat) (v : Value) : Prop := ∃ t, v = .int ((k : Nat) : Int) t
theorem AreR.get {α : Type} {R : α → Value → Prop} {vs : List Value} {xs : List α} (h : AreR R vs xs) {i : Nat} {d : α} (hi : i < xs.length) : ∃ v, vs[i]? = some v ∧ R (xs.getD i d) v := by
  have hv : i < vs.length := by rw [h.length]; exact hi
  obtain ⟨x, hx, hr⟩ := h.pick (List.getElem?_eq_getElem hv)
  refine ⟨_, List.getElem?_eq_getElem hv, ?_⟩
  rw [List.getD_eq_getElem?_getD, hx]
  exact hr
section
open PySem.Calls PyProof.V PySem.Spec
variable {prog : Program} {w : World} {A : Around} {E : Value → Shared → Prop} {s : Shared} {h₀ : Heap} {L l : Addr} {news : List (Addr × Obj)} {Q : Value → Shared → Prop} {vs : List Value} {n : Nat} {ns : List Nat} {u : Tok} {i : Int}
theorem any_nat (k : Nat) (ns : List Nat) : (ns.map fun x => ((x : Nat) : Int)).any (· == (k : Int)) = decide (k ∈ ns) := by
  rw [Bool.eq_iff_iff, List.any_eq_true, decide_eq_true_eq]
  constructor
  · rintro ⟨x, hx, e⟩
    obtain ⟨y, hy, rfl⟩ := List.mem_map.mp hx
    have : y = k := by
      have e' : ((y : Nat) : Int) = (k : Int) := by simpa using e
      omega
    exact this ▸ hy
  · intro h
    exact ⟨_, List.mem_map.mpr ⟨k, h, rfl⟩, by simp⟩
end
theorem natR_of {k : Nat} {z : Int} {t : Tok} (h : z = (k : Int)) : natR k (.int z t) := ⟨t, by rw [h]⟩
theorem nodup_le : ∀ (n : Nat) (l : List Nat), l.Nodup → (∀ k ∈ l, k ≤ n) → l.length ≤ n + 1
  | n, l, hn, hl => by
    by_cases hm : n ∈ l
    · have h1 : (l.erase n).Nodup := hn.erase n
      have h2 : ∀ k ∈ l.erase n, k ≤ n ∧ k ≠ n := fun k hk => by
        have := (List.Nodup.mem_erase_iff hn).mp hk
        exact ⟨hl k this.2, this.1⟩
      have h3 := List.length_erase_of_mem hm
      have h4 : 0 < l.length := List.length_pos_of_mem hm
      cases n with
      | zero =>
        have : l.erase 0 = [] := by
          cases h : l.erase 0 with
          | nil => rfl
          | cons a r => exact absurd (h2 a (by rw [h]; exact .head _)) (by omega)
        rw [this] at h3
        simp at h3
        omega
      | succ n =>
        have := nodup_le n (l.erase (n + 1)) h1 (fun k hk => by have := h2 k hk; omega)
        omega
    · cases n with
      | zero =>
        cases l with
        | nil => simp
        | cons a r =>
          have h := hl a (.head _)
          have h0 : a = 0 := by omega
          exact absurd (by rw [h0]; exact .head _) hm
      | succ n =>
        have := nodup_le n l hn (fun k hk => by
          have h1 := hl k hk
          have h2 : k ≠ n + 1 := fun e => hm (e ▸ hk)
          omega)
        omega
theorem getD_mem {l : List Nat} {i : Nat} (h : i < l.length) : l.getD i 0 ∈ l := by
  rw [List.getD_eq_getElem?_getD, List.getElem?_eq_getElem h]
  exact List.getElem_mem h
theorem closeF_end {ps : List Nat} {f : Nat} {live : List Nat} {turn : Nat} (h : ¬ turn < live.length) : closeF ps f live turn = live := by
  cases f with
  | zero => rfl
  | succ f => rw [closeF, if_neg h]
theorem closeF_yes {ps : List Nat} {f : Nat} {live : List Nat} {turn : Nat} (h : turn < live.length) (h1 : live.getD turn 0 < ps.length) (h2 : ps.getD (live.getD turn 0) 0 = 257) (h3 : ¬ (live.getD turn 0 + 1 ∈ live)) :
    closeF ps (f + 1) live turn = closeF ps f (live ++ [live.getD turn 0 + 1]) (turn + 1) := by
  rw [closeF, if_pos h, if_pos ⟨h1, h2, h3⟩]
theorem closeF_no {ps : List Nat} {f : Nat} {live : List Nat} {turn : Nat} (h : turn < live.length) (h1 : ¬ (live.getD turn 0 < ps.length ∧ ps.getD (live.getD turn 0) 0 = 257 ∧ ¬ (live.getD turn 0 + 1 ∈ live))) :
    closeF ps (f + 1) live turn = closeF ps f live (turn + 1) := by
  rw [closeF, if_pos h, if_neg h1]
theorem mem_stepF {ps live : List Nat} {c k : Nat} (h : k ∈ stepF ps live c) : k ≤ ps.length := by
  obtain ⟨p, _, hp⟩ := List.mem_flatMap.mp h
  unfold stepP at hp
  split at hp
  · split at hp
    · rw [List.mem_singleton.mp hp]; omega
    · split at hp
      · rw [List.mem_singleton.mp hp]; omega
      · exact nomatch hp
  · exact nomatch hp
theorem mem_normF {n k : Nat} {l : List Nat} : k ∈ normF n l ↔ k ≤ n ∧ k ∈ l := by
  unfold normF
  rw [List.mem_filter, List.mem_range, decide_eq_true_eq]
  constructor
  · rintro ⟨h1, h2⟩; exact ⟨by omega, h2⟩
  · rintro ⟨h1, h2⟩; exact ⟨by omega, h2⟩
theorem normF_nodup (n : Nat) (l : List Nat) : (normF n l).Nodup := (List.nodup_range).filter _
theorem normF_asc (n : Nat) (l : List Nat) : (normF n l).Pairwise (· < ·) := (List.pairwise_lt_range).filter _
theorem asc_uniqN : ∀ {a b : List Nat}, a.Pairwise (· < ·) → b.Pairwise (· < ·) → (∀ k, k ∈ a ↔ k ∈ b) → a = b
  | [], [], _, _, _ => rfl
  | [], y :: b, _, _, h => absurd ((h y).mpr (.head _)) (by simp)
  | x :: a, [], _, _, h => absurd ((h x).mp (.head _)) (by simp)
  | x :: a, y :: b, ha, hb, h => by
    have ha' := List.pairwise_cons.mp ha
    have hb' := List.pairwise_cons.mp hb
    have e : x = y := by
      rcases List.mem_cons.mp ((h x).mp (.head _)) with e | hx
      · exact e
      · rcases List.mem_cons.mp ((h y).mpr (.head _)) with e | hy
        · exact e.symm
        · have h1 := hb'.1 x hx
          have h2 := ha'.1 y hy
          omega
    subst e
    rw [asc_uniqN ha'.2 hb'.2 fun k => by
      constructor
      · intro hk
        rcases List.mem_cons.mp ((h k).mp (.tail _ hk)) with rfl | h'
        · exact absurd (ha'.1 k hk) (by omega)
        · exact h'
      · intro hk
        rcases List.mem_cons.mp ((h k).mpr (.tail _ hk)) with rfl | h'
        · exact absurd (hb'.1 k hk) (by omega)
        · exact h']
theorem are_nat_of_ints : ∀ {vs : List Value} {ms : List Int}, IntsAre vs ms → (∀ z ∈ ms, 0 ≤ z) → AreR natR vs (ms.map Int.toNat) := fun h h0 => by
  induction h with
  | nil => exact .nil
  | cons n t _ ih => exact .cons ⟨t, by rw [Int.toNat_of_nonneg (h0 n (.head _))]⟩ (ih fun z hz => h0 z (.tail _ hz))
end
section -- ConTP
theorem u8_eq {a : UInt8} {k : Nat} (hk : k < 256) (h : ((a.toNat : Nat) : Int) = (k : Int)) : a = UInt8.ofNat k := by
  apply UInt8.toNat_inj.mp
  rw [UInt8.toNat_ofNat']
  omega
theorem u8_92 {a : UInt8} (h : ((a.toNat : Nat) : Int) = 92) : a = 92 := u8_eq (k := 92) (by decide) h
theorem u8_63 {a : UInt8} (h : ((a.toNat : Nat) : Int) = 63) : a = 63 := u8_eq (k := 63) (by decide) h
theorem u8_42 {a : UInt8} (h : ((a.toNat : Nat) : Int) = 42) : a = 42 := u8_eq (k := 42) (by decide) h
theorem tp_one {t : List UInt8} {at_ : Int} {ks : List Nat} {k : Nat} (h0 : 0 ≤ at_) (h1 : at_ < (t.length : Int)) (hp : ks ++ partsOf (t.drop at_.toNat) = partsOf t) (hn : (((t.getD at_.toNat 0).toNat : Nat) : Int) ≠ 92 ∨ ¬ (at_ + 1 < (t.length : Int))) (hk : partOf (t.getD at_.toNat 0) = k) :
    (ks ++ [k]) ++ partsOf (t.drop (at_ + 1).toNat) = partsOf t := by
  rw [show (at_ + 1).toNat = at_.toNat + 1 by omega, ← hp, partsOf_one (i := at_.toNat) (by omega) (fun h => ?_), hk]
  · simp
  · rcases hn with hn | hn
    · rw [h.1] at hn; exact hn rfl
    · exact hn (by omega)
theorem partOf_oct {c : UInt8} (h1 : ((c.toNat : Nat) : Int) ≠ 63) (h2 : ((c.toNat : Nat) : Int) ≠ 42) : partOf c = c.toNat := by
  unfold partOf
  rw [if_neg (fun e => h1 (by rw [e]; rfl)), if_neg (fun e => h2 (by rw [e]; rfl))]
theorem tp_esc {t : List UInt8} {at_ : Int} {ks : List Nat} (h0 : 0 ≤ at_) (h1 : at_ + 1 < (t.length : Int)) (hp : ks ++ partsOf (t.drop at_.toNat) = partsOf t) (hn : t.getD at_.toNat 0 = 92) :
    (ks ++ [(t.getD (at_ + 1).toNat 0).toNat]) ++ partsOf (t.drop (at_ + 1 + 1).toNat) = partsOf t := by
  rw [show (at_ + 1 + 1).toNat = at_.toNat + 2 by omega, show (at_ + 1).toNat = at_.toNat + 1 by omega, ← hp, partsOf_esc (by omega) hn]
  simp
noncomputable def pAV (k : Nat) : AV := if k = 256 then .str (Str.ofString "any") else if k = 257 then .str (Str.ofString "row") else .int (k : Nat)
theorem pAV_oct (a : UInt8) : pAV a.toNat = .int ((a.toNat : Nat) : Int) := by
  have := UInt8.toNat_lt a
  unfold pAV
  rw [if_neg (by omega), if_neg (by omega)]
theorem pm_snoc {ks : List Nat} {k : Nat} {x : AV} (h : pAV k = x) : ks.map pAV ++ [x] = (ks ++ [k]).map pAV := by rw [List.map_append, ← h]; rfl
theorem str_bs : Str.ofString "\\" = ⟨#[92]⟩ := by decide +kernel
theorem str_qu : Str.ofString "?" = ⟨#[63]⟩ := by decide +kernel
theorem str_st : Str.ofString "*" = ⟨#[42]⟩ := by decide +kernel
theorem kw_43 : True := by
  k_with "exf" => first | exact EX.ord (n := 92) EX.cs str_bs rfl | exact EX.ord (n := 63) EX.cs str_qu rfl | exact EX.ord (n := 42) EX.cs str_st rfl
  trivial
structure TpI (t : List UInt8) (p : Int × List Nat) : Prop where
  h0 : 0 ≤ p.1
  h1 : p.1 ≤ (t.length : Int)
  hk : p.2 ++ partsOf (t.drop p.1.toNat) = partsOf t
  hl : (p.2.length : Int) ≤ p.1
theorem TpI.snoc {t : List UInt8} {at_ at' : Int} {ks : List Nat} {k : Nat} (h : TpI t (at_, ks)) (h1 : at_ + 1 ≤ at') (h2 : at' ≤ t.length) (hk : (ks ++ [k]) ++ partsOf (t.drop at'.toNat) = partsOf t) : TpI t (at', ks ++ [k]) :=
  ⟨by have := h.h0; dsimp only at *; omega, h2, hk, by have := h.hl; dsimp only at *; rw [List.length_append, List.length_singleton]; omega⟩
noncomputable def TpΨ {W : Type} (ω : W) (ll : LL) (t : List UInt8) (x : AV) (Ω : W × LL) : Prop := ∃ a, x = .val (.ref a) ∧ Ω = (ω, .lst a ((partsOf t).map pAV) :: ll)
noncomputable abbrev tpF (a : Addr) (t : List UInt8) (n : Int) : FS := [(Str.ofString "at", .int n), (Str.ofString "found", .val (.ref a)), (Str.ofString "template", .bytes t)]
noncomputable abbrev tpV {W : Type} (ω : W) (ll : LL) (a : Addr) (ks : List Nat) : W × LL := (ω, .lst a (ks.map pAV) :: ll)
theorem fy_parts {W : Type} {w : World} {Λ : Lg w.params W} {ω : W} {ll : LL} {t : List UInt8} (hz : t.length ≤ 100) : FY w (LgP Λ) 600 411 [.bytes t] (ω, ll) (TpΨ ω ll t) := by
  refine' FY.of (fun hk bs hdp9 => ?b) ?k6 ?k7 ?k8 (bind1 (n1 := Str.ofString "template") (by intro _; kernel_rfl) ?l1) ?c2 ?c3 ?c4 ?c5
  case k6 => exact rfl
  case k7 => exact rfl
  case k8 => exact rfl
  case l1 => exact rfl
  case c2 => exact rfl
  case c3 => exact rfl
  case c4 => exact rfl
  case c5 => decide
  refine SX.tn2Y (EY.lst EXs.nil) (fun _ _ _ => EX.ci) fun x Ω1 h => ?_
  obtain ⟨a, rfl, rfl⟩ := h
  refine SX.whl (WX.ind (fun p : Int × List Nat => tpF a t p.1) (fun p => tpV ω ll a p.2) (fun p => ((t.length : Int) - p.1).toNat) (TpI t) (0, []) ⟨Int.le_refl _, by dsimp only; omega, rfl, Int.le_refl _⟩ (.cons rfl (.cons rfl (.cons rfl .nil))) rfl fun p hI ih => ?_)
  obtain ⟨at_, ks⟩ := p
  have h0 := hI.h0
  have h1 := hI.h1
  have hl := hI.hl
  dsimp only at h0 h1 hl ih ⊢
  by_cases hlt : at_ < (t.length : Int)
  · by_cases hb : (((t.getD at_.toNat 0).toNat : Nat) : Int) = 92 ∧ at_ + 1 < (t.length : Int)
    · obtain ⟨hb1, hb2⟩ := hb
      refine WX.t (TX.cast (by walk_at "tx") (by walk_at "bt")) (SX.ofN (by walk_at "sx") (ih (at_ + 1 + 1, ks ++ [_]) _ _ (hI.snoc (by omega) (by omega) (tp_esc h0 hb2 hI.hk (u8_92 hb1))) (by dsimp only; omega) (by exact .cons rfl (.cons rfl (.cons rfl .nil))) ?_))
      exact congrArg (fun z => (ω, LE.lst a z :: ll)) (pm_snoc (pAV_oct _))
    · have hn : (((t.getD at_.toNat 0).toNat : Nat) : Int) ≠ 92 ∨ ¬ (at_ + 1 < (t.length : Int)) := by omega
      by_cases hq : (((t.getD at_.toNat 0).toNat : Nat) : Int) = 63
      · refine WX.t (TX.cast (by walk_at "tx") (by walk_at "bt")) (SX.ofN (by walk_at "sx") (ih (at_ + 1, ks ++ [256]) _ _ (hI.snoc (by omega) (by omega) (tp_one h0 hlt hI.hk hn (by rw [u8_63 hq]; rfl))) (by dsimp only; omega) (by exact .cons rfl (.cons rfl (.cons rfl .nil))) ?_))
        exact congrArg (fun z => (ω, LE.lst a z :: ll)) (pm_snoc rfl)
      · by_cases hs : (((t.getD at_.toNat 0).toNat : Nat) : Int) = 42
        · refine WX.t (TX.cast (by walk_at "tx") (by walk_at "bt")) (SX.ofN (by walk_at "sx") (ih (at_ + 1, ks ++ [257]) _ _ (hI.snoc (by omega) (by omega) (tp_one h0 hlt hI.hk hn (by rw [u8_42 hs]; rfl))) (by dsimp only; omega) (by exact .cons rfl (.cons rfl (.cons rfl .nil))) ?_))
          exact congrArg (fun z => (ω, LE.lst a z :: ll)) (pm_snoc rfl)
        · have hA : ((((t.getD at_.toNat 0).toNat : Nat) : Int) == 92 && decide (at_ + 1 < (t.length : Int))) = false := by
            rcases hn with hn | hn
            · exact and_f (bq_f hn)
            · exact and_f2 (decide_eq_false hn)
          refine WX.t (TX.cast (by walk_at "tx") (by walk_at "bt")) (SX.ofN (by walk_at "sx") (ih (at_ + 1, ks ++ [_]) _ _ (hI.snoc (by omega) (by omega) (tp_one h0 hlt hI.hk hn (partOf_oct hq hs))) (by dsimp only; omega) (by exact .cons rfl (.cons rfl (.cons rfl .nil))) ?_))
          exact congrArg (fun z => (ω, LE.lst a z :: ll)) (pm_snoc (pAV_oct _))
  · refine WX.f (TX.cast (by walk_at "tx") (by walk_at "bt")) ?_
    exact SX.ofR (SX.ret (EX.nm rfl)) fun _ => ⟨a, rfl, by rw [← hI.hk, List.drop_eq_nil_of_le (by dsimp only; omega)]; simp [partsOf]⟩
end
section -- ConTF
variable {w : World} {A₀ : Around} {base h₀ : Heap} {outer : List Env} {L a : Addr} {m : Str → Option Value} {news : List (Addr × Obj)} {g : Obj → List (Addr × Obj)} {s : Shared} {Q E : Value → Shared → Prop} {dp un : Nat} {gd : Option (List Code)} {cn : Str} {cs : Scope} {ccd : Value} {cl : List (Str × Addr)} {loose : List Str} {mean : ExcName → Option Value} {mg mb : Str → Option Value}
noncomputable def StopT (p : Prop) : Prop := p
theorem stopT_ {p : Prop} (h : StopT p) : p := h
theorem nodup_snocN {l : List Nat} {x : Nat} (h : l.Nodup) (hx : ¬ x ∈ l) : (l ++ [x]).Nodup := by
  rw [List.nodup_append]
  refine ⟨h, by simp, fun a ha b hb => ?_⟩
  rw [List.mem_singleton.mp hb]
  exact fun e => hx (e ▸ ha)
theorem le_snocN {l : List Nat} {x n : Nat} (h : ∀ k ∈ l, k ≤ n) (hx : x ≤ n) : ∀ k ∈ l ++ [x], k ≤ n := fun k hk => by
  rcases List.mem_append.mp hk with hk | hk
  · exact h k hk
  · rw [List.mem_singleton.mp hk]; exact hx
theorem step_len (ps : List Nat) (c : Nat) : ∀ l : List Nat, (stepF ps l c).length ≤ l.length
  | [] => Nat.le_refl _
  | p :: l => by
    have ih := step_len ps c l
    have h : (stepP ps c p).length ≤ 1 := by
      unfold stepP
      split
      · split
        · simp
        · split <;> simp
      · simp
    unfold stepF at *
    rw [List.flatMap_cons, List.length_append, List.length_cons]
    omega
theorem step_snoc {ps l : List Nat} {c j k : Nat} (h : l[j]? = some k) : stepF ps (l.take (j + 1)) c = stepF ps (l.take j) c ++ stepP ps c k := by
  unfold stepF
  rw [List.take_add_one, h, List.flatMap_append]
  simp
theorem stepP_row {ps : List Nat} {c k : Nat} (h : k < ps.length) (h1 : ps.getD k 0 = 257) : stepP ps c k = [k] := by unfold stepP; rw [if_pos h, if_pos h1]
theorem stepP_hit {ps : List Nat} {c k : Nat} (h : k < ps.length) (h1 : ps.getD k 0 ≠ 257) (h2 : ps.getD k 0 = 256 ∨ ps.getD k 0 = c) : stepP ps c k = [k + 1] := by unfold stepP; rw [if_pos h, if_neg h1, if_pos h2]
theorem stepP_miss {ps : List Nat} {c k : Nat} (h1 : ps.getD k 0 ≠ 257) (h2 : ps.getD k 0 ≠ 256) (h3 : ps.getD k 0 ≠ c) : stepP ps c k = [] := by
  unfold stepP
  by_cases h : k < ps.length
  · rw [if_pos h, if_neg h1, if_neg (fun h => h.elim h2 h3)]
  · rw [if_neg h]
theorem stepP_out {ps : List Nat} {c k : Nat} (h : ¬ k < ps.length) : stepP ps c k = [] := by unfold stepP; rw [if_neg h]
theorem srcAt_cons {h₀ : Heap} {ax : Addr} {its : Array Value} {p : Addr × Obj} {l : List (Addr × Obj)} (h : LCg.SrcAt h₀ ax its l) : LCg.SrcAt h₀ ax its (p :: l) := by
  rcases h with h | ⟨o, hm, r⟩
  · exact .inl h
  · exact .inr ⟨o, .tail _ hm, r⟩
theorem mem_rot {a b c d p : Addr × Obj} {l : List (Addr × Obj)} (h : p ∈ a :: b :: c :: d :: l) : p ∈ d :: a :: b :: c :: l := by
  simp only [List.mem_cons] at h ⊢
  rcases h with h | h | h | h | h
  · exact .inr (.inl h)
  · exact .inr (.inr (.inl h))
  · exact .inr (.inr (.inr (.inl h)))
  · exact .inl h
  · exact .inr (.inr (.inr (.inr h)))
theorem dict_nodup {prog : Program} {w : World} {K : Type} [DecidableEq K] {knd : PySem.KeyKind prog w K} {o : Obj} {kvs : List (K × Value)} (h : o.IsDictOf knd kvs) : (kvs.map (·.1)).Nodup := by
  obtain ⟨_, _, _, _, _, _, hn⟩ := h
  exact hn
theorem sort_norm {vs : List Value} {ns : List Int} {ms : List Nat} {kvs : List (Int × Value)} {n : Nat} (hI : IntsAre vs ns) (h1 : kvs.map (·.1) = ms.map fun k : Nat => (k : Int)) (h2 : ns.Perm ((merged [] kvs).map (·.1))) (hnd : ((merged [] kvs).map (·.1)).Nodup) (h3 : ns.Pairwise (· ≤ ·)) (hle : ∀ k ∈ ms, k ≤ n) : AreR natR vs (normF n ms) := by
  have hmem : ∀ z, z ∈ ns ↔ ∃ k ∈ ms, (k : Int) = z := fun z => by
    rw [h2.mem_iff, mem_merged, h1]
    simp
  have h0 : ∀ z ∈ ns, 0 ≤ z := fun z hz => by
    obtain ⟨k, _, rfl⟩ := (hmem z).mp hz
    omega
  have e : ns.map Int.toNat = normF n ms := by
    refine asc_uniqN ?_ (normF_asc n ms) fun k => ?_
    · rw [List.pairwise_map]
      have hnd' : ns.Nodup := h2.nodup_iff.mpr hnd
      refine List.Pairwise.imp_of_mem (R := fun a b => a ≤ b ∧ a ≠ b) (fun {a b} ha hb hr => ?_) (h3.and hnd')
      have := h0 a ha
      have := h0 b hb
      have := hr.1
      have := hr.2
      omega
    · rw [mem_normF, List.mem_map]
      constructor
      · rintro ⟨z, hz, rfl⟩
        obtain ⟨k, hk, rfl⟩ := (hmem z).mp hz
        rw [Int.toNat_natCast]
        exact ⟨hle k hk, hk⟩
      · rintro ⟨_, hk⟩
        exact ⟨(k : Int), (hmem _).mpr ⟨k, hk, rfl⟩, Int.toNat_natCast k⟩
  rw [← e]
  exact are_nat_of_ints hI h0
theorem cw_no {ps L0 dns : List Nat} {k : Nat} (h1 : k < dns.length) (hl : dns.length ≤ ps.length + 1) (hc : closeF ps (ps.length + 1 - k) dns k = L0)
    (hno : ¬ (dns.getD k 0 < ps.length ∧ ps.getD (dns.getD k 0) 0 = 257 ∧ ¬ (dns.getD k 0 + 1 ∈ dns))) : closeF ps (ps.length + 1 - (k + 1)) dns (k + 1) = L0 := by
  rw [show ps.length + 1 - k = (ps.length + 1 - (k + 1)) + 1 by omega, closeF_no h1 hno] at hc
  exact hc
theorem cw_yes {ps L0 dns : List Nat} {k : Nat} (h1 : k < dns.length) (hl : dns.length ≤ ps.length + 1) (hc : closeF ps (ps.length + 1 - k) dns k = L0)
    (h2 : dns.getD k 0 < ps.length) (h3 : ps.getD (dns.getD k 0) 0 = 257) (h4 : ¬ (dns.getD k 0 + 1 ∈ dns)) : closeF ps (ps.length + 1 - (k + 1)) (dns ++ [dns.getD k 0 + 1]) (k + 1) = L0 := by
  rw [show ps.length + 1 - k = (ps.length + 1 - (k + 1)) + 1 by omega, closeF_yes h1 h2 h3 h4] at hc
  exact hc
theorem tf_end {ps cns dns : List Nat} {nm : List UInt8} {k i : Nat} (hn : ¬ k < dns.length) (hc : closeF ps (ps.length + 1 - k) dns k = closeF ps (ps.length + 1) cns 0) (hi : i = nm.length) (hr : runF ps cns (nm.drop i) = runF ps [0] nm) : decide (ps.length ∈ dns) = runF ps [0] nm := by
  subst hi
  rw [List.drop_eq_nil_of_le (Nat.le_refl _)] at hr
  rw [← hr, closeF_end hn] at *
  rw [runF, ← hc]
theorem tf_step {ps cns dns ms : List Nat} {nm : List UInt8} {k i : Nat} (hin : i < nm.length) (hn : ¬ k < dns.length) (hc : closeF ps (ps.length + 1 - k) dns k = closeF ps (ps.length + 1) cns 0) (hm : ms = stepF ps dns (nm.getD i 0).toNat) (hr : runF ps cns (nm.drop i) = runF ps [0] nm) :
    runF ps (normF ps.length ms) (nm.drop (i + 1)) = runF ps [0] nm := by
  rw [closeF_end hn] at hc
  rw [drop_at hin, runF, ← hc, ← hm] at hr
  exact hr
noncomputable abbrev nAV (k : Nat) : AV := .int (k : Nat)
theorem pm_get {ps : List Nat} {p : Nat} (h : p < ps.length) : (ps.map pAV)[((p : Nat) : Int).toNat]? = some (pAV (ps.getD p 0)) := by
  rw [Int.toNat_natCast, List.getElem?_map, List.getElem?_eq_getElem h, List.getD_eq_getElem?_getD, List.getElem?_eq_getElem h]
  rfl
theorem nm_get {ds : List Nat} {k : Nat} (h : k < ds.length) : (ds.map nAV)[((k : Nat) : Int).toNat]? = some (nAV (ds.getD k 0)) := by
  rw [Int.toNat_natCast, List.getElem?_map, List.getElem?_eq_getElem h, List.getD_eq_getElem?_getD, List.getElem?_eq_getElem h]
  rfl
theorem nm_snoc {ks : List Nat} {k : Nat} {x : AV} (h : nAV k = x) : ks.map nAV ++ [x] = (ks ++ [k]).map nAV := by rw [List.map_append, ← h]; rfl
theorem nm_ints {ds : List Nat} (vs : List Value) (h : ArgsV (ds.map nAV) vs) : IntsAre vs (ds.map fun k => ((k : Nat) : Int)) := ArgsV.ints (by rw [List.map_map]; exact h)
theorem nm_of : ∀ {ds : List Nat} {vs : List Value}, AreR natR vs ds → ArgsV (ds.map nAV) vs
  | _, _, .nil => .nil
  | _, _, .cons ⟨t, e⟩ r => e ▸ .cons t (nm_of r)
theorem nm_are : ∀ {ds : List Nat} {vs : List Value}, ArgsV (ds.map nAV) vs → AreR natR vs ds
  | [], _, .nil => .nil
  | _ :: _, _, .cons t r => .cons ⟨t, rfl⟩ (nm_are r)
section
variable {prog : Program} {w : World} {A : Around} {k : Nat} {n : Int}
theorem Cm.pRow : Cm (model prog w) A .Eq (pAV k) (.str (Str.ofString "row")) (decide (k = 257)) := by
  unfold pAV
  by_cases h : k = 256
  · rw [if_pos h, decide_eq_false (by omega), show false = ((Str.ofString "any").cps.toList == (Str.ofString "row").cps.toList) by decide +kernel]; exact Cm.eqS
  · by_cases h2 : k = 257
    · rw [if_neg h, if_pos h2, decide_eq_true h2, show true = ((Str.ofString "row").cps.toList == (Str.ofString "row").cps.toList) by decide +kernel]; exact Cm.eqS
    · rw [if_neg h, if_neg h2, decide_eq_false h2]; exact Cm.eqIS
theorem Cm.pAny : Cm (model prog w) A .Eq (pAV k) (.str (Str.ofString "any")) (decide (k = 256)) := by
  unfold pAV
  by_cases h : k = 256
  · rw [if_pos h, decide_eq_true h, show true = ((Str.ofString "any").cps.toList == (Str.ofString "any").cps.toList) by decide +kernel]; exact Cm.eqS
  · by_cases h2 : k = 257
    · rw [if_neg h, if_pos h2, decide_eq_false h, show false = ((Str.ofString "row").cps.toList == (Str.ofString "any").cps.toList) by decide +kernel]; exact Cm.eqS
    · rw [if_neg h, if_neg h2, decide_eq_false h]; exact Cm.eqIS
theorem Cm.pInt (h : k ≠ 256) (h2 : k ≠ 257) : Cm (model prog w) A .Eq (pAV k) (.int n) (((k : Nat) : Int) == n) := by
  unfold pAV
  rw [if_neg h, if_neg h2]
  exact Cm.eq
end
theorem nq {a b : Prop} [Decidable a] [Decidable b] (h : ¬ (a ∧ ¬ b)) : (decide a && !decide b) = false := by
  by_cases h1 : a
  · rw [decide_eq_true h1, decide_eq_true (Classical.byContradiction fun h2 => h ⟨h1, h2⟩)]; rfl
  · rw [decide_eq_false h1]; rfl
theorem ow_snoc {ps ds : List Nat} {c j p q : Nat} (hk : ds[j]? = some p) (h : stepP ps c p = [q]) : (stepF ps (ds.take j) c).map nAV ++ [nAV q] = (stepF ps (ds.take (j + 1)) c).map nAV := by
  rw [step_snoc hk, h, List.map_append]; rfl
theorem ow_none {ps ds : List Nat} {c j p : Nat} (hk : ds[j]? = some p) (h : stepP ps c p = []) : (stepF ps (ds.take j) c).map nAV = (stepF ps (ds.take (j + 1)) c).map nAV := by
  rw [step_snoc hk, h, List.append_nil]
theorem kw_44 : True := by
  k_with "CompSrc" => (refine stopT_ ?_)
  k_with "call type:dict" => (refine stopT_ ?_)
  k_with "call builtin:sorted" => (refine stopT_ ?_)
  k_with "eval ListComp" => (k_here; k_dflt (refine LCg.ListComp_U (F₀ := by k_asm) (by with_unfolding_all rfl) (by decide) (by rfl) (by decide) (by rfl) ?_))
  trivial
structure CwI (ps L0 : List Nat) (s : Nat × List Nat) : Prop where
  hk : s.1 ≤ s.2.length
  hn : s.2.Nodup
  hl : ∀ k ∈ s.2, k ≤ ps.length
  hc : closeF ps (ps.length + 1 - s.1) s.2 s.1 = L0
structure TfI (ps : List Nat) (nm : List UInt8) (i : Nat) (ns : List Nat) : Prop where
  hn : ns.Nodup
  hl : ∀ k ∈ ns, k ≤ ps.length
  hi : i ≤ nm.length
  hr : runF ps ns (nm.drop i) = runF ps [0] nm
noncomputable def FtΨ {W : Type} (ω : W) (b : Bool) (x : AV) (Ω : W × LL) : Prop := x = .val (.bool b) ∧ Ω.1 = ω
noncomputable abbrev tfF (a b : Addr) (nm : List UInt8) : FS := [(Str.ofString "parts", .val (.ref b)), (Str.ofString "live", .val (.ref a)), (Str.ofString "name", .bytes nm)]
noncomputable def TfJ {W : Type} (ps : List Nat) (nm : List UInt8) (b : Addr) (ω : W) (i : Nat) (l : FS) (Ω : W × LL) : Prop := ∃ a ns, l = tfF a b nm ∧ Ω = (ω, [.lst b (ps.map pAV), .lst a (ns.map nAV)]) ∧ TfI ps nm i ns
noncomputable abbrev cwF (a b : Addr) (nm : List UInt8) (i k : Nat) : FS := [(Str.ofString "turn", nAV k), (Str.ofString "at", .int (i : Nat)), (Str.ofString "parts", .val (.ref b)), (Str.ofString "live", .val (.ref a)), (Str.ofString "name", .bytes nm)]
noncomputable abbrev cwV {W : Type} (ω : W) (a b : Addr) (os : List (Addr × Obj)) (ps ds : List Nat) : W × LL := (ω, [.lst a (ds.map nAV), .own os, .lst b (ps.map pAV)])
noncomputable abbrev owF (a b d : Addr) (nm : List UInt8) (i : Nat) : FS := [(Str.ofString "onward", .val (.ref d)), (Str.ofString "at", .int (i : Nat)), (Str.ofString "parts", .val (.ref b)), (Str.ofString "live", .val (.ref a)), (Str.ofString "name", .bytes nm)]
noncomputable def OwJ {W : Type} (ps ds : List Nat) (nm : List UInt8) (a b d : Addr) (os : List (Addr × Obj)) (ω : W) (i j : Nat) (l : FS) (Ω : W × LL) : Prop := l = owF a b d nm i ∧ Ω = cwV ω d b os ps (stepF ps (ds.take j) (nm.getD i 0).toNat)
noncomputable def SdΨ {W : Type} (ω : W) (b : Addr) (os : List (Addr × Obj)) (ps ms : List Nat) (x : AV) (Ω : W × LL) : Prop := ∃ a, x = .val (.ref a) ∧ Ω = cwV ω a b os ps (normF ps.length ms)
theorem fy_fits {W : Type} {w : World} {Λ : Lg w.params W} {ω : W} {t nm : List UInt8} (hz : t.length ≤ 50) (hzn : nm.length ≤ 100) : FY w (LgP Λ) 580 416 [.bytes t, .bytes nm] (ω, []) (FtΨ ω (runF (partsOf t) [0] nm)) := by
  refine' FY.of (fun hk bs hdp9 => ?zb) ?z6 ?z7 ?z8 (bind2 (n1 := Str.ofString "template") (n2 := Str.ofString "name") (by intro _ _; kernel_rfl) ?zl ?zm) ?z2 ?z3 ?z4 ?z5
  case z6 => exact rfl
  case z7 => exact rfl
  case z8 => exact rfl
  case zl => exact rfl
  case zm => exact rfl
  case z2 => exact rfl
  case z3 => exact rfl
  case z4 => exact rfl
  case z5 => decide
  refine SX.asgY (EY.lst (EXs.cons EX.ci EXs.nil)) fun x Ω1 h => ?_
  obtain ⟨a, rfl, rfl⟩ := h
  refine SX.asgY (EY.fn (by kernel_rfl) (by kernel_rfl) (EXs.cons (EX.nm rfl) EXs.nil) (fy_parts (by omega)) (Nat.lt_of_lt_of_le hdp9 (Nat.le_of_ble_eq_true rfl))) fun x Ω1 h => ?_
  obtain ⟨b, rfl, rfl⟩ := h
  have hpl := partsOf_len t.length t (Nat.le_refl _)
  generalize partsOf t = ps at hpl ⊢
  have hpz : (ps.map pAV).length ≤ 10000 := by rw [List.length_map]; omega
  have hps : ∀ {p : Nat}, p < ps.length → (((p : Nat) : Int) < ((ps.map pAV).length : Int)) := fun h => by rw [List.length_map]; exact Int.ofNat_lt.mpr h
  have hpn : ∀ {p : Nat}, ¬ p < ps.length → ¬ (((p : Nat) : Int) < ((ps.map pAV).length : Int)) := fun h z => h (by rw [List.length_map] at z; exact Int.ofNat_lt.mp z)
  have hn16 : nm.length ≤ 16777216 := by omega
  refine SX.sub (l1 := tfF a b nm) (.cons rfl (.cons rfl (.cons rfl .nil))) ?_
  refine SX.forR (mm := nm.length + 1) (J := TfJ ps nm b ω)
    (EX.cast (EX.bin (EX.len (EX.nm rfl) hn16) EX.ci Bi.add) rfl) (by omega) ⟨a, [0], rfl, rfl, by simp, by simp, Nat.zero_le _, rfl⟩ ?turn fun l Ω ⟨_, _, _, _, h⟩ => absurd h.hi (by omega)
  rintro i os l ω' ll hi ⟨a, ns, rfl, e, hT⟩
  obtain ⟨rfl, rfl⟩ := Prod.mk.inj e
  clear e
  refine SX.asg EX.ci (SX.wk (ll1 := [.lst a (ns.map nAV), .own os, .lst b (ps.map pAV)]) (.cons (.tail (.tail .head)) .refl) (SX.whl (WX.ind (fun s : Nat × List Nat => cwF a b nm i s.1) (fun s => cwV ω' a b os ps s.2) (fun s => ps.length + 1 - s.1) (CwI ps (closeF ps (ps.length + 1) ns 0)) (0, ns) ⟨Nat.zero_le _, hT.hn, hT.hl, rfl⟩ (.cons rfl (.cons rfl (.cons rfl (.cons rfl (.cons rfl .nil))))) rfl ?_)))
  rintro ⟨k, ds⟩ hI ih
  have hdl := nodup_le ps.length ds hI.hn hI.hl
  have hI1 := hI.hk
  dsimp only at hI1 ih hdl ⊢
  have hdz : (ds.map nAV).length ≤ 10000 := by rw [List.length_map]; omega
  by_cases hk9 : k < ds.length
  · have hpm := hI.hl _ (getD_mem hk9)
    have no : ¬ (ds.getD k 0 < ps.length ∧ ps.getD (ds.getD k 0) 0 = 257 ∧ ¬ (ds.getD k 0 + 1 ∈ ds)) → CwI ps (closeF ps (ps.length + 1) ns 0) (k + 1, ds) := fun h => ⟨hk9, hI.hn, hI.hl, cw_no hk9 hdl hI.hc h⟩
    refine WX.t (TX.cast (TX.cmp (EX.nm rfl) (EX.lenL (EX.nm rfl) (.head _) hdz) Cm.lt) (decide_eq_true (by rw [List.length_map]; omega))) (SX.tn2 (EX.itemL (EX.nm rfl) (EX.nm rfl) (.head _) (by omega) (by omega) (nm_get hk9)) (EX.bin (EX.nm rfl) EX.ci Bi.add) ?_)
    by_cases h1 : ds.getD k 0 < ps.length
    · by_cases h2 : ps.getD (ds.getD k 0) 0 = 257 ∧ ¬ (ds.getD k 0 + 1 ∈ ds)
      · refine SX.ofN (SX.ifT (TX.cast (TX.and3 (TX.cmp (EX.nm rfl) (EX.lenL (EX.nm rfl) (.tail _ (.tail _ (.head _))) hpz) Cm.lt) (TX.cmp (EX.itemL (EX.nm rfl) (EX.nm rfl) (.tail _ (.tail _ (.head _))) (by omega) (by omega) (pm_get h1)) EX.cs Cm.pRow) (TX.notinL (EX.bin (EX.nm rfl) EX.ci Bi.add) (EX.nm rfl) (.head _) nm_ints (any_nat _ _))) (and_t (decide_eq_true (hps h1)) (and_t (decide_eq_true h2.1) (not_t (decide_eq_false h2.2))))) (SX.exp (EX.app rfl (.head _) (EX.bin (EX.nm rfl) EX.ci Bi.add) .head hdz) SX.nil) SX.nil)
          (ih (k + 1, ds ++ [_]) _ _ ⟨by simp only [List.length_append, List.length_singleton]; omega, nodup_snocN hI.hn h2.2, le_snocN hI.hl h1, cw_yes hk9 hdl hI.hc h1 h2.1 h2.2⟩ (by dsimp only; omega) (by exact .cons rfl (.cons rfl (.cons rfl (.cons rfl (.cons rfl .nil))))) ?v)
        case v => exact congrArg (fun z => (ω', [LE.lst a z, .own os, .lst b (ps.map pAV)])) (nm_snoc rfl)
      · exact SX.ofN (SX.ifF (TX.cast (TX.and3 (TX.cmp (EX.nm rfl) (EX.lenL (EX.nm rfl) (.tail _ (.tail _ (.head _))) hpz) Cm.lt) (TX.cmp (EX.itemL (EX.nm rfl) (EX.nm rfl) (.tail _ (.tail _ (.head _))) (by omega) (by omega) (pm_get h1)) EX.cs Cm.pRow) (TX.notinL (EX.bin (EX.nm rfl) EX.ci Bi.add) (EX.nm rfl) (.head _) nm_ints (any_nat _ _))) (and_f2 (nq h2))) SX.nil SX.nil)
          (ih (k + 1, ds) _ _ (no fun h => h2 h.2) (by dsimp only; omega) (by exact .cons rfl (.cons rfl (.cons rfl (.cons rfl (.cons rfl .nil))))) rfl)
    · exact SX.ofN (SX.ifF (TX.and1 (TX.cast (TX.cmp (EX.nm rfl) (EX.lenL (EX.nm rfl) (.tail _ (.tail _ (.head _))) hpz) Cm.lt) (decide_eq_false (hpn h1)))) SX.nil SX.nil)
        (ih (k + 1, ds) _ _ (no fun h => h1 h.1) (by dsimp only; omega) (by exact .cons rfl (.cons rfl (.cons rfl (.cons rfl (.cons rfl .nil))))) rfl)
  · refine WX.f (TX.cast (TX.cmp (EX.nm rfl) (EX.lenL (EX.nm rfl) (.head _) hdz) Cm.lt) (decide_eq_false (by rw [List.length_map]; omega))) ?_
    by_cases hin : i = nm.length
    · exact SX.ifP (q := true) (TX.cast (TX.cmp (EX.nm rfl) (EX.len (EX.nm rfl) hn16) Cm.eq) (bq_t (by omega))) (SX.ofR (SX.ret (EX.inL (EX.lenL (EX.nm rfl) (.tail _ (.tail _ (.head _))) hpz) (EX.nm rfl) (.head _) nm_ints (any_nat _ _))) fun _ => ⟨by rw [List.length_map, tf_end hk9 hI.hc hin hT.hr], rfl⟩)
    · have hin2 : i < nm.length := by omega
      refine SX.ifF (TX.cast (TX.cmp (EX.nm rfl) (EX.len (EX.nm rfl) hn16) Cm.eq) (bq_f (by omega))) SX.nil (SX.asgY (EY.lst EXs.nil) fun x Ω1 h => ?_)
      obtain ⟨d, rfl, rfl⟩ := h
      refine SX.sub (l1 := owF a b d nm i) (.cons rfl (.cons rfl (.cons rfl (.cons rfl (.cons rfl .nil))))) ?_
      refine SX.forL (J := OwJ ps ds nm a b d os ω' i) rfl (.tail .head) ⟨rfl, rfl⟩ ?turn2 ?done2
      case turn2 =>
        rintro j os2 l ω2 ll2 x hx ⟨rfl, e⟩
        obtain ⟨rfl, rfl⟩ := Prod.mk.inj e
        clear e
        obtain ⟨p, hp, rfl⟩ : ∃ p, ds[j]? = some p ∧ nAV p = x := by simpa [List.getElem?_map] using hx
        have hsl : (stepF ps (ds.take j) (nm.getD i 0).toNat).length ≤ 1000 := Nat.le_trans (step_len ps _ _) (by rw [List.length_take]; omega)
        by_cases h1 : p < ps.length
        · have hl2 : (stepF ps (ds.take j) (nm.getD i 0).toNat).length ≤ 10000 := by omega
          by_cases h2 : ps.getD p 0 = 257
          · exact SX.ofN (SX.ifT (TX.cast (TX.cmp (EX.nm rfl) (EX.lenL (EX.nm rfl) (.tail _ (.tail _ (.tail _ (.head _)))) hpz) Cm.lt) (decide_eq_true (hps h1))) (SX.ifT (TX.cast (TX.cmp (EX.itemL (EX.nm rfl) (EX.nm rfl) (.tail _ (.tail _ (.tail _ (.head _)))) (by omega) (by omega) (pm_get h1)) EX.cs Cm.pRow) (decide_eq_true h2)) (SX.exp (EX.app rfl (.tail _ (.head _)) (EX.nm rfl) (.tail .head) (by rw [List.length_map]; omega)) SX.nil) SX.nil) SX.nil)
              ⟨_, _, by exact .cons rfl (.cons rfl (.cons rfl (.cons rfl (.cons rfl .nil)))), by exact .cons (.tail .head) .refl, rfl, congrArg (fun z => (ω2, [LE.lst d z, .own os, .lst b (ps.map pAV)])) (ow_snoc hp (stepP_row h1 h2))⟩
          · by_cases h3 : ps.getD p 0 = 256
            · exact SX.ofN (SX.ifT (TX.cast (TX.cmp (EX.nm rfl) (EX.lenL (EX.nm rfl) (.tail _ (.tail _ (.tail _ (.head _)))) hpz) Cm.lt) (decide_eq_true (hps h1))) (SX.ifF (TX.cast (TX.cmp (EX.itemL (EX.nm rfl) (EX.nm rfl) (.tail _ (.tail _ (.tail _ (.head _)))) (by omega) (by omega) (pm_get h1)) EX.cs Cm.pRow) (decide_eq_false h2)) (SX.ifT (TX.or1 (TX.cast (TX.cmp (EX.itemL (EX.nm rfl) (EX.nm rfl) (.tail _ (.tail _ (.tail _ (.head _)))) (by omega) (by omega) (pm_get h1)) EX.cs Cm.pAny) (decide_eq_true h3))) (SX.exp (EX.app rfl (.tail _ (.head _)) (EX.bin (EX.nm rfl) EX.ci Bi.add) (.tail .head) (by rw [List.length_map]; omega)) SX.nil) SX.nil) SX.nil) SX.nil)
                ⟨_, _, by exact .cons rfl (.cons rfl (.cons rfl (.cons rfl (.cons rfl .nil)))), by exact .cons (.tail .head) .refl, rfl, congrArg (fun z => (ω2, [LE.lst d z, .own os, .lst b (ps.map pAV)])) (ow_snoc hp (stepP_hit h1 h2 (.inl h3)))⟩
            · by_cases h4 : ps.getD p 0 = (nm.getD i 0).toNat
              · exact SX.ofN (SX.ifT (TX.cast (TX.cmp (EX.nm rfl) (EX.lenL (EX.nm rfl) (.tail _ (.tail _ (.tail _ (.head _)))) hpz) Cm.lt) (decide_eq_true (hps h1))) (SX.ifF (TX.cast (TX.cmp (EX.itemL (EX.nm rfl) (EX.nm rfl) (.tail _ (.tail _ (.tail _ (.head _)))) (by omega) (by omega) (pm_get h1)) EX.cs Cm.pRow) (decide_eq_false h2)) (SX.ifT (TX.or (TX.cast (TX.cmp (EX.itemL (EX.nm rfl) (EX.nm rfl) (.tail _ (.tail _ (.tail _ (.head _)))) (by omega) (by omega) (pm_get h1)) EX.cs Cm.pAny) (decide_eq_false h3)) (TX.cast (TX.cmp (EX.itemL (EX.nm rfl) (EX.nm rfl) (.tail _ (.tail _ (.tail _ (.head _)))) (by omega) (by omega) (pm_get h1)) (EX.item (EX.nm rfl) (EX.nm rfl) (by omega) (by omega) (by omega)) (Cm.pInt h3 h2)) (bq_t (congrArg Int.ofNat h4)))) (SX.exp (EX.app rfl (.tail _ (.head _)) (EX.bin (EX.nm rfl) EX.ci Bi.add) (.tail .head) (by rw [List.length_map]; omega)) SX.nil) SX.nil) SX.nil) SX.nil)
                  ⟨_, _, by exact .cons rfl (.cons rfl (.cons rfl (.cons rfl (.cons rfl .nil)))), by exact .cons (.tail .head) .refl, rfl, congrArg (fun z => (ω2, [LE.lst d z, .own os, .lst b (ps.map pAV)])) (ow_snoc hp (stepP_hit h1 h2 (.inr h4)))⟩
              · exact SX.ofN (SX.ifT (TX.cast (TX.cmp (EX.nm rfl) (EX.lenL (EX.nm rfl) (.tail _ (.tail _ (.tail _ (.head _)))) hpz) Cm.lt) (decide_eq_true (hps h1))) (SX.ifF (TX.cast (TX.cmp (EX.itemL (EX.nm rfl) (EX.nm rfl) (.tail _ (.tail _ (.tail _ (.head _)))) (by omega) (by omega) (pm_get h1)) EX.cs Cm.pRow) (decide_eq_false h2)) (SX.ifF (TX.or (TX.cast (TX.cmp (EX.itemL (EX.nm rfl) (EX.nm rfl) (.tail _ (.tail _ (.tail _ (.head _)))) (by omega) (by omega) (pm_get h1)) EX.cs Cm.pAny) (decide_eq_false h3)) (TX.cast (TX.cmp (EX.itemL (EX.nm rfl) (EX.nm rfl) (.tail _ (.tail _ (.tail _ (.head _)))) (by omega) (by omega) (pm_get h1)) (EX.item (EX.nm rfl) (EX.nm rfl) (by omega) (by omega) (by omega)) (Cm.pInt h3 h2)) (bq_f (fun e => h4 (Int.ofNat.inj e))))) SX.nil SX.nil) SX.nil) SX.nil)
                  ⟨_, _, by exact .cons rfl (.cons rfl (.cons rfl (.cons rfl (.cons rfl .nil)))), by exact .refl, rfl, congrArg (fun z => (ω2, [LE.lst d z, .own os, .lst b (ps.map pAV)])) (ow_none hp (stepP_miss h2 h3 h4))⟩
        · exact SX.ofN (SX.ifF (TX.cast (TX.cmp (EX.nm rfl) (EX.lenL (EX.nm rfl) (.tail _ (.tail _ (.tail _ (.head _)))) hpz) Cm.lt) (decide_eq_false (hpn h1))) SX.nil SX.nil)
            ⟨_, _, by exact .cons rfl (.cons rfl (.cons rfl (.cons rfl (.cons rfl .nil)))), by exact .refl, rfl, congrArg (fun z => (ω2, [LE.lst d z, .own os, .lst b (ps.map pAV)])) (ow_none hp (stepP_out h1))⟩
      case done2 =>
        rintro l Ω ⟨rfl, rfl⟩
        rw [List.length_map, List.take_length]
        have hsl : (stepF ps ds (nm.getD i 0).toNat).length ≤ ds.length := step_len ps _ _
        have hle : ∀ k ∈ stepF ps ds (nm.getD i 0).toNat, k ≤ ps.length := fun k hk => mem_stepF hk
        refine SX.asgY (Ψ := SdΨ ω' b os ps (stepF ps ds (nm.getD i 0).toNat)) ?sd fun x Ω1 h => ?_
        case sd =>
          obtain ⟨dp, un, gd, L, outer, g, base, A₀, loose, mean, mg, mb, B, X, T⟩ := bs
          generalize stepF ps ds (nm.getD i 0).toNat = ms at hsl hle ⊢
          refine .mk fun s Q E S H => S.use ⟨_, rfl⟩ fun m nw nw0 hm LL F0 N0 kk => ?_
          obtain ⟨td, htd⟩ := hm (Str.ofString "onward") _ rfl
          obtain ⟨m2, rfl⟩ : ∃ m2 : Str → Option Value, m = fun y => if y = Str.ofString "onward" then some (.ref d) else m2 y := ⟨m, funext fun y => by
            by_cases h : y = Str.ofString "onward"
            · rw [if_pos h, h]; exact htd
            · rw [if_neg h]⟩
          refine LL.pickL .head fun vs9 n9 nw' av L' off sub => ?_
          have hA9 := nm_are av
          have hvl := AreR.length hA9
          have N9 : News g L s.heap ((d, listOf vs9.toArray n9) :: nw') := fun p hp => N0 p (sub p hp)
          have hff : ∀ q ∈ nw', q.1 ≠ d := fun q hq e => off default _ (.head _) q.1 (List.mem_map.mpr ⟨q, hq, rfl⟩) e.symm
          clear N0 LL sub htd
          change wpAny (model rw_on0267_01.row.prog w) (ktrTop dp un gd _ _ L _ _ [] outer) (eval _ (envX _ _ L _ _ [])) Q E s
          change Fr g L s.heap _ at F0
          dsimp only
          have TR := topRead_of T
          have XK := X
          revert XK
          k_fill
          intro XK
          k_steps
          unfold StopT
          refine LCg.CompSrc.ledger (by rfl) (by k_asm) (by k_asm) (.head _) (by (rw [PySem.sizeLine_eq]; simp only [List.size_toArray]; omega)) ?_
          intro g9
          refine' cp_rest (ks := ms) natR natR (fun v => v = .bool true) (by simp only [List.size_toArray]; omega) ?cP ?cS ?ct ?cf
          case cP =>
            intro i9 v9 hi9 hv9
            exact hA9.pick (by simpa using hv9)
          case cS => exact .inr ⟨_, .head _, rfl, _, rfl⟩
          case ct =>
            intro cur k v I oI C oC D m₂ ys h tk E' hc hS hk hs hC hx F9 N9 off ne
            obtain ⟨t5, rfl⟩ := hs
            k_steps
            (rename News _ _ _ _ => N8); (rename Fr _ _ _ _ => F8)
            refine' LCg.CompEnd.intro F8 N8 ((_, tupObj #[_, _]) :: cur) (fun p hp => mem_rot hp) ?off (srcAt_cons hS) ⟨_, _, _, rfl, rfl, ⟨_, rfl⟩, rfl⟩
            case off => exact ⟨⟨by omega, by omega, by omega⟩, off⟩
          case cf =>
            intro ys news' hT hsub
            unfold LCg.FinE
            intro D' h' tk' F' N' o1'
            k_steps
            unfold StopT
            refine' dictT_K (knd := PySem.intKind _ _) (f := fun k : Nat => (k : Int)) (by rfl) F' N' (Top.nolimit (by k_asm)) hT hsub (fun k v hv => by obtain ⟨t6, rfl⟩ := hv; exact intKind_is _ _ _ _) (by omega) (fun d8 h' o8 tk kvs8 F' N' ld8 lo8 hd8 hm8 => ?_)
            k_lt ld8
            k_steps
            unfold StopT
            have hkl8 := congrArg List.length hm8
            simp only [List.length_map] at hkl8
            have hml8 := merged_length_le [] kvs8
            simp only [List.length_nil] at hml8
            refine' sortedD_I (by rfl) (by k_asm) (by k_asm) (by k_mem) hd8 lo8 (by omega) (fun D8 vs8 ns8 c8 h' tk F' N' lt8 hI8 hp8 ha8 => ?_)
            have hB9 : AreR natR vs8 (normF ps.length ms) := sort_norm hI8 hm8 hp8 (dict_nodup hd8) ha8 hle
            exact H _ default (.val (.ref D8)) _ ⟨D8, rfl, rfl⟩ ⟨rfl, rfl, rfl⟩ ⟨_, (D8, listOf vs8.toArray c8) :: nw', hm, kk _ _ (.cons (.lst c8 (nm_of hB9)) L' fun p hp b hb => by
              obtain ⟨q, hq, rfl⟩ := List.mem_map.mp hb
              rw [List.mem_singleton.mp hp]
              exact (Nat.ne_of_lt (lt8 q (.tail _ (.tail _ hq)))).symm), F', fun p hp => N' p (by
              rcases List.mem_cons.mp hp with rfl | hp
              · exact .head _
              · exact .tail _ (.tail _ (.tail _ hp)))⟩
        obtain ⟨a', rfl, rfl⟩ := h
        exact SX.done ⟨_, _, by exact .cons rfl (.cons rfl (.cons rfl .nil)), by exact .cons (.tail .head) (.cons (.tail .head) .refl), a', _, rfl, rfl, normF_nodup _ _, fun k hk => (mem_normF.mp hk).1, hin2, tf_step hin2 hk9 hI.hc rfl hT.hr⟩
theorem template_fits {x dx C : Addr} {o : Obj} {fs : FS}
  {t nm : List UInt8} {tt tn : Tok}
  (B : Below A₀ base outer h₀) (F : Fr h₀ L s.heap m) (X : (hd.heap_1 w.params).In h₀) (T : Top topProg loose mean mg mb h₀) (hk : cs.kind = .function) (hdp : dp < 580)
  (N : News h₀ L s.heap news) (hx : (x, instObj C dx) ∈ news) (hdx : (dx, o) ∈ news) (hD : Dk w.params o fs) (hz : t.length ≤ 50) (hzn : nm.length ≤ 100)
  (ret : ∀ h' tk, Fr h₀ L h' m → News h₀ L h' news → Q (.bool (runF (partsOf t) [0] nm)) { s with heap := h', toks := tk }) :
  wpAny (model rw_on0267_01.row.prog w) (ktrTop dp un gd cn cs L a ccd cl outer) (call (.ref 416) [.bytes t.toArray tt, .bytes nm.toArray tn]) Q E s :=
  useF B F X T hk hdp N hx hdx hD (fun _ _ _ => fy_fits hz hzn) (.cons tt (.cons tn .nil)) fun _ => ret
end
section -- ConMF
variable {w : World} {A₀ : Around} {base h₀ : Heap} {outer : List Env} {L a : Addr} {m : Str → Option Value} {news : List (Addr × Obj)} {g : Obj → List (Addr × Obj)} {s : Shared} {Q E : Value → Shared → Prop} {dp un : Nat} {gd : Option (List Code)} {cn : Str} {cs : Scope} {ccd : Value} {cl : List (Str × Addr)} {loose : List Str} {mean : ExcName → Option Value} {mg mb : Str → Option Value}

theorem kw_45 : True := by
  k_with "call ref" => (k_here; (with_reducible show wpAny _ _ (call (Value.ref 416) [Value.bytes (List.toArray _) _, Value.bytes (List.toArray _) _]) _ _ _); k_dflt (refine' template_fits ?B ?F ?X ?T ?hk ?hd ?N ?hxx ?hdxx ?hDD ?hz ?hzn (fun h' tk' F' N' => ?_); (case N => k_asm); (case F => k_asm); (case B => k_asm); (case X => k_asm); (case T => k_asm); (case hk => first | exact rfl | assumption); (case hd => walk_at "hd9"); (case hxx => k_mem); (case hdxx => k_mem); (case hDD => assumption); (case hz => assumption); (case hzn => assumption)); (all_goals (try k_sweep)))
  k_with "ite" => (k_dflt (first | refine ite_neg (by assumption) ?_ | refine ite_pos rfl ?_))
  k_with "CompSrcT" => (refine stopT_ ?_)
  k_with "eval ListComp" => (k_here; k_dflt (refine LCt.ListComp_T (F₀ := by k_asm) (by with_unfolding_all rfl) (by decide) (by rfl) (by decide) (by rfl) ?_))
  trivial
theorem matching_gives {x dx : Addr}
  {t : List UInt8} {tt : Tok} {d : Addr} {o od : Obj} {kvs : List (List UInt8 × Value)} {z : Int}
  (B : Below A₀ base outer h₀) (F : Fr h₀ L s.heap m) (X : (hd.heap_1 w.params).In h₀) (T : Top topProg loose mean mg mb h₀) (hk : cs.kind = .function) (hdp : dp < 550) (hun : un < 600)
  (N : News h₀ L s.heap ((x, instObj 400 dx) :: (dx, o) :: (d, od) :: news)) (ho : IsFT w.params o d z) (hod : od.IsDictOf (bytesKind rw_on0267_01.row.prog w) kvs) (lo : (d == sysModules) = false) (h64 : kvs.length < 64) (hnm : ∀ p ∈ kvs, p.1.length ≤ 100) (hz : t.length ≤ 50) (hdev : ¬ t.take (Int.toNat 4) = [37, 111, 115, 37])
  (ret : ∀ D vs bs c h' tk, Fr h₀ L h' m → News h₀ L h' ((D, listOf vs.toArray c) :: (x, instObj 400 dx) :: (dx, o) :: (d, od) :: news) → BsAre vs (bs.filter fun n => runF (partsOf t) [0] n) → bs.Perm (kvs.map (·.1)) → Asc bs → Q (.ref D) { s with heap := h', toks := tk }) :
  wpAny (model rw_on0267_01.row.prog w) (ktrTop dp un gd cn cs L a ccd cl outer) (call (.ref 397) [.ref x, .bytes t.toArray tt]) Q E s := by
  obtain ⟨fs9, hD9⟩ : ∃ fs, Dk w.params o fs := by obtain ⟨_, _, _, h⟩ := ho; exact ⟨_, h⟩
  (refine IsFT.elim ho ?_; clear ho; intro k0 k1 k2 k3 k4 t0 si so se e9z; subst e9z)
  have hsz : t.toArray.size = t.length := List.size_toArray
  revert X
  k_fill
  intro X
  refine wpAny_call ?_
  k_enter
  k_steps
  unfold StopT
  refine' sortedD_B (by rfl) (by k_asm) (by k_asm) (by k_mem) hod lo h64 (fun D8 vs8 bs8 c8 h' tk F' N' lt8 hB8 hp8 ha8 => ?_)
  (try dsimp only at lt8)
  k_lt lt8
  have hl8 : bs8.length = kvs.length := by rw [hp8.length_eq, List.length_map]
  have hvl8 : vs8.length = bs8.length := hB8.length
  k_steps
  unfold StopT
  refine LCt.CompSrcT.ledger (by rfl) (by k_asm) (by k_asm) (by k_mem) (by (rw [PySem.sizeLine_eq]; simp only [List.size_toArray]; omega)) ?_
  intro g9
  refine' ct_rest (ks := bs8) (fun b v => ∃ t, v = .bytes (List.toArray b) t) (fun n => runF (partsOf t) [0] n) (fun b v => ∃ t, v = .bytes (List.toArray b) t) (by simp only [List.size_toArray]; omega) ?cP ?turn ?fin
  case cP =>
    intro i9 v9 hi9 hv9
    exact (BsAre.are hB8).pick (by simpa using hv9)
  case turn =>
    intro k v I oI C oC D m₂ ys h tk E' hk hs hC hx F9 N9 off ne
    obtain ⟨t5, rfl⟩ := hs
    have hkl : k.length ≤ 100 := by
      obtain ⟨p, hp, rfl⟩ := List.mem_map.mp (hp8.mem_iff.mp hk)
      exact hnm p hp
    k_steps
    · (rename News _ _ _ _ => N8); (rename Fr _ _ _ _ => F8)
      exact LCg.CompEnd.intro F8 N8 _ (fun p hp => hp) off (.inr ⟨_, by k_mem, rfl, _, rfl⟩) ⟨rfl, by assumption, ⟨_, rfl⟩⟩
    · (rename News _ _ _ _ => N8); (rename Fr _ _ _ _ => F8)
      exact LCg.CompEnd.intro F8 N8 _ (fun p hp => hp) off (.inr ⟨_, by k_mem, rfl, _, rfl⟩) ⟨rfl, (by (first | assumption | exact Bool.eq_false_iff.mpr (by assumption)))⟩
  case fin =>
    intro ys hA
    unfold LCg.FinE
    intro D' h' tk' F' N' o1'
    k_steps
    (rename News h₀ L _ _ => N9); (rename Fr h₀ L _ m => F9)
    exact ret _ _ _ _ _ _ F9 (fun p hp => N9 p (by
      rcases List.mem_cons.mp hp with rfl | hp
      · exact .head _
      · rcases List.mem_cons.mp hp with rfl | hp
        · k_mem
        · rcases List.mem_cons.mp hp with rfl | hp
          · k_mem
          · rcases List.mem_cons.mp hp with rfl | hp
            · k_mem
            · k_ownIn)) (by simpa using AreR.bs (f := fun x => x) hA) hp8 ha8
end
section -- ConLF
section
open PySem.SeqAt
variable {prog : Program} {w : World} {A : Around} {E : Value → Shared → Prop} {s : Shared} {h₀ : Heap} {L p q : Addr} {news : List (Addr × Obj)} {Q : Value → Shared → Prop} {vs : List Value} {n k : Nat}
theorem ne_empty (N : News h₀ L s.heap news) (m1 : (p, PySem.W.listOf vs.toArray n) ∈ news) (m2 : (q, PySem.W.listOf #[] k) ∈ news) (hu : A.units < cLine) (h : Q (.bool (decide (vs ≠ []))) s) : wpAny (model prog w) A (compareOp .NotEq (.ref p) (.ref q)) Q E s := by
  cases vs with
  | nil =>
    refine RcNeAt.lists (e := fun _ => true) (items := #[]) (items2 := #[]) ⟨_, (N _ m1).1, rfl, _, rfl⟩ ⟨_, (N _ m2).1, rfl, _, rfl⟩ rfl hu (fun j h1 h2 => absurd h1 (by simp)) prog w E Q ?_
    simpa using h
  | cons v vs =>
    refine RcNeAt.lists_lengths (items := (v :: vs).toArray) (items2 := #[]) ⟨_, (N _ m1).1, rfl, _, rfl⟩ ⟨_, (N _ m2).1, rfl, _, rfl⟩ (by simp) hu prog w E Q ?_
    simpa using h
end
theorem any_of_filter {α : Type} {R : α → Value → Prop} {ys : List Value} {ks : List α} {p : α → Bool} (h : AreR R ys (ks.filter p)) : decide (ys ≠ []) = ks.any p := by
  rw [Bool.eq_iff_iff, decide_eq_true_eq, List.any_eq_true]
  have hl := h.length
  constructor
  · intro hy
    have : ks.filter p ≠ [] := fun e => hy (by rw [e] at hl; exact List.length_eq_zero_iff.mp hl)
    obtain ⟨a, ha⟩ := List.exists_mem_of_ne_nil _ this
    exact ⟨a, (List.mem_filter.mp ha).1, (List.mem_filter.mp ha).2⟩
  · rintro ⟨a, h1, h2⟩ e
    have h3 : a ∈ ks.filter p := List.mem_filter.mpr ⟨h1, h2⟩
    rw [e] at hl
    have h4 := List.length_pos_of_mem h3
    simp only [List.length_nil] at hl
    omega
theorem lawF_nil {f : Nat} {x : List UInt8} : lawF (f + 1) [] x = decide (x = []) := by simp [lawF]
theorem lawF_row {f : Nat} {t x : List UInt8} (h0 : t ≠ []) (h : t.take (Int.toNat 1) = [42]) : lawF (f + 1) t x = (List.range (x.length + 1)).any fun k => lawF f (t.drop (Int.toNat 1)) (x.drop k) := by
  have h' : t.take 1 = [42] := h
  rw [lawF, if_neg h0, if_pos h']; rfl
theorem lawF_esc {f : Nat} {t x : List UInt8} (h0 : t ≠ []) (h : ¬ t.take (Int.toNat 1) = [42]) (h2 : t.take (Int.toNat 1) = [92]) (h3 : x ≠ []) (h4 : x.take (Int.toNat 1) = (t.drop (Int.toNat 1)).take (Int.toNat 2 - Int.toNat 1)) : lawF (f + 1) t x = lawF f (t.drop (Int.toNat 2)) (x.drop (Int.toNat 1)) := by
  have h' : ¬ t.take 1 = [42] := h
  have h2' : t.take 1 = [92] := h2
  have h4' : x.take 1 = (t.drop 1).take 1 := h4
  rw [lawF, if_neg h0, if_neg h', if_pos h2', decide_eq_true h3, decide_eq_true h4']; rfl
theorem lawF_esc_no {f : Nat} {t x : List UInt8} (h0 : t ≠ []) (h : ¬ t.take (Int.toNat 1) = [42]) (h2 : t.take (Int.toNat 1) = [92]) (h4 : ¬ x.take (Int.toNat 1) = (t.drop (Int.toNat 1)).take (Int.toNat 2 - Int.toNat 1)) : lawF (f + 1) t x = decide (x.take (Int.toNat 1) = (t.drop (Int.toNat 1)).take (Int.toNat 2 - Int.toNat 1)) := by
  have h' : ¬ t.take 1 = [42] := h
  have h2' : t.take 1 = [92] := h2
  have h4' : ¬ x.take 1 = (t.drop 1).take 1 := h4
  rw [lawF, if_neg h0, if_neg h', if_pos h2', decide_eq_false h4, decide_eq_false h4', Bool.false_and, Bool.and_false]
theorem lawF_esc_nil {f : Nat} {t x : List UInt8} (h0 : t ≠ []) (h : ¬ t.take (Int.toNat 1) = [42]) (h2 : t.take (Int.toNat 1) = [92]) (h3 : ¬ x ≠ []) : lawF (f + 1) t x = decide (x ≠ []) := by
  have h' : ¬ t.take 1 = [42] := h
  have h2' : t.take 1 = [92] := h2
  rw [lawF, if_neg h0, if_neg h', if_pos h2', decide_eq_false h3, Bool.false_and]
theorem lawF_one {f : Nat} {t x : List UInt8} (h0 : t ≠ []) (h : ¬ t.take (Int.toNat 1) = [42]) (h2 : ¬ t.take (Int.toNat 1) = [92]) (h3 : x ≠ []) (h4 : t.take (Int.toNat 1) = [63] ∨ t.take (Int.toNat 1) = x.take (Int.toNat 1)) : lawF (f + 1) t x = lawF f (t.drop (Int.toNat 1)) (x.drop (Int.toNat 1)) := by
  have h' : ¬ t.take 1 = [42] := h
  have h2' : ¬ t.take 1 = [92] := h2
  have h4' : t.take 1 = [63] ∨ t.take 1 = x.take 1 := h4
  rw [lawF, if_neg h0, if_neg h', if_neg h2', decide_eq_true h3, decide_eq_true h4']; rfl
theorem lawF_one_no {f : Nat} {t x : List UInt8} (h0 : t ≠ []) (h : ¬ t.take (Int.toNat 1) = [42]) (h2 : ¬ t.take (Int.toNat 1) = [92]) (h4 : ¬ (t.take (Int.toNat 1) = [63] ∨ t.take (Int.toNat 1) = x.take (Int.toNat 1))) : lawF (f + 1) t x = decide (t.take (Int.toNat 1) = [63] ∨ t.take (Int.toNat 1) = x.take (Int.toNat 1)) := by
  have h' : ¬ t.take 1 = [42] := h
  have h2' : ¬ t.take 1 = [92] := h2
  have h4' : ¬ (t.take 1 = [63] ∨ t.take 1 = x.take 1) := h4
  rw [lawF, if_neg h0, if_neg h', if_neg h2', decide_eq_false h4, decide_eq_false h4', Bool.false_and, Bool.and_false]
theorem lawF_one_nil {f : Nat} {t x : List UInt8} (h0 : t ≠ []) (h : ¬ t.take (Int.toNat 1) = [42]) (h2 : ¬ t.take (Int.toNat 1) = [92]) (h3 : ¬ x ≠ []) : lawF (f + 1) t x = decide (x ≠ []) := by
  have h' : ¬ t.take 1 = [42] := h
  have h2' : ¬ t.take 1 = [92] := h2
  rw [lawF, if_neg h0, if_neg h', if_neg h2', decide_eq_false h3, Bool.false_and]
theorem kw_46 : True := by
  k_with "call ref" => (k_here; (with_reducible show wpAny _ _ (call (Value.ref 454) [Value.bytes (List.toArray _) _, Value.bytes (List.toArray _) _]) _ _ _); k_dflt (refine' ih ?B ?F ?X ?T ?hk ?hd ?hu ?N ?hf ?hz ?hzx (fun h' tk' F' N' => ?_); (case N => k_asm); (case F => k_asm); (case B => k_asm); (case X => k_asm); (case T => k_asm); (case hk => first | exact rfl | assumption); (case hd => walk_at "hd9"); (case hu => walk_at "hu9"); (case hf => (simp only [List.length_drop]; omega)); (case hz => (simp only [List.length_drop]; omega)); (case hzx => (simp only [List.length_drop]; omega))); (all_goals (try k_sweep)))
  k_with "compareOp NotEq ref ref" => (refine stopT_ ?_)
  trivial
theorem law_fits (f : Nat) : ∀ {w : World} {A₀ : Around} {base h₀ : Heap} {outer : List Env} {L a : Addr} {m : Str → Option Value} {news : List (Addr × Obj)} {s : Shared} {Q E : Value → Shared → Prop}
  {dp un : Nat} {gd : Option (List Code)} {cn : Str} {cs : Scope} {ccd : Value} {cl : List (Str × Addr)} {loose : List Str} {mean : ExcName → Option Value} {mg mb : Str → Option Value}
  {t x : List UInt8} {tt tx : Tok}
  (B : Below A₀ base outer h₀) (F : Fr h₀ L s.heap m) (X : (hd.heap_1 w.params).In h₀) (T : Top topProg loose mean mg mb h₀) (hk : cs.kind = .function) (hdp : dp + 20 * f < 550) (hun : un + 60 * f < 700)
  (N : News h₀ L s.heap news) (hf : t.length < f) (hz : t.length ≤ 50) (hzx : x.length ≤ 50)
  (ret : ∀ h' tk, Fr h₀ L h' m → News h₀ L h' news → Q (.bool (lawF f t x)) { s with heap := h', toks := tk }),
  wpAny (model rw_on0267_01.row.prog w) (ktrTop dp un gd cn cs L a ccd cl outer) (call (.ref 454) [.bytes t.toArray tt, .bytes x.toArray tx]) Q E s := by
  induction f with
  | zero => intros; omega
  | succ f ih =>
  intro w A₀ base h₀ outer L a m news s Q E dp un gd cn cs ccd cl loose mean mg mb t x tt tx B F X T hk hdp hun N hf hz hzx ret
  have hsz : t.toArray.size = t.length := List.size_toArray
  have hsz2 : x.toArray.size = x.length := List.size_toArray
  have hts : t.take 1 = t.take (Int.toNat 1) := rfl
  revert X
  k_fill
  intro X
  by_cases ht : t = []
  · subst ht
    refine wpAny_call ?_
    k_enter
    k_steps
    (rename News h₀ L _ _ => N9); (rename Fr h₀ L _ m => F9); rw [← lawF_nil (f := f)]
    exact ret _ _ F9 (fun p hp => N9 p (by k_ownIn))
  have htl : 0 < t.length := List.length_pos_iff.mpr ht
  refine wpAny_call ?_
  k_enter
  k_steps
  · unfold StopT
    refine LCt.CompSrcT.range (by rfl) (by k_asm) (by k_asm) (by assumption) (small_one (by omega) (by omega) (by omega) (by omega)) (rangeSize_nat _ _) (by (rw [PySem.sizeLine_eq]; omega)) ?_
    intro g9
    refine' ct_rest (ks := List.range (x.length + 1)) natR (fun k => lawF f (t.drop (Int.toNat 1)) (x.drop k)) natR (by simp) ?cP ?turn ?fin
    case cP =>
      intro i9 v9 hi9 hv9
      obtain ⟨t6, rfl⟩ := hv9
      exact ⟨i9, List.getElem?_range hi9, natR_of (by omega)⟩
    case turn =>
      intro k v I oI C oC D m₂ ys h tk E' hk hs hC hx F9 N9 off ne
      obtain ⟨t5, rfl⟩ := hs
      k_steps
      · (rename News _ _ _ _ => N8); (rename Fr _ _ _ _ => F8); (try simp only [Int.toNat_natCast] at *)
        exact LCg.CompEnd.intro F8 N8 _ (fun p hp => hp) off trivial ⟨rfl, by assumption, ⟨_, rfl⟩⟩
      · (rename News _ _ _ _ => N8); (rename Fr _ _ _ _ => F8); (try simp only [Int.toNat_natCast] at *)
        exact LCg.CompEnd.intro F8 N8 _ (fun p hp => hp) off trivial ⟨rfl, (by (first | assumption | exact Bool.eq_false_iff.mpr (by assumption)))⟩
    case fin =>
      intro ys hA
      unfold LCg.FinE
      intro D' h' tk' F' N' o1'
      k_steps
      unfold StopT
      refine ne_empty (by k_asm) (by k_mem) (by k_mem) (by ((try simp only [units_in1, units_deeper, Around.mark_units, units_caller]); (try dsimp only [ktrTop]); (have hcL9 := cLine_is); omega)) ?_
      rw [any_of_filter hA]
      k_steps
      (rename News h₀ L _ _ => N9); (rename Fr h₀ L _ m => F9)
      rw [← lawF_row (f := f) ht (by assumption)]
      exact ret _ _ F9 (fun p hp => N9 p (by k_ownIn))
  · (rename News h₀ L _ _ => N9); (rename Fr h₀ L _ m => F9);
    rw [← lawF_esc (f := f) ht (by assumption) (by assumption) (by assumption) (by assumption)]
    exact ret _ _ F9 (fun p hp => N9 p (by k_ownIn))
  · (rename News h₀ L _ _ => N9); (rename Fr h₀ L _ m => F9);
    rw [← lawF_esc_no (f := f) ht (by assumption) (by assumption) (by assumption)]
    exact ret _ _ F9 (fun p hp => N9 p (by k_ownIn))
  · (rename News h₀ L _ _ => N9); (rename Fr h₀ L _ m => F9);
    rw [← lawF_esc_nil (f := f) ht (by assumption) (by assumption) (by assumption)]
    exact ret _ _ F9 (fun p hp => N9 p (by k_ownIn))
  · (rename News h₀ L _ _ => N9); (rename Fr h₀ L _ m => F9);
    rw [← lawF_one (f := f) ht (by assumption) (by assumption) (by assumption) (by assumption)]
    exact ret _ _ F9 (fun p hp => N9 p (by k_ownIn))
  · (rename News h₀ L _ _ => N9); (rename Fr h₀ L _ m => F9);
    rw [← lawF_one_no (f := f) ht (by assumption) (by assumption) (by assumption)]
    exact ret _ _ F9 (fun p hp => N9 p (by k_ownIn))
  · (rename News h₀ L _ _ => N9); (rename Fr h₀ L _ m => F9);
    rw [← lawF_one_nil (f := f) ht (by assumption) (by assumption) (by assumption)]
    exact ret _ _ F9 (fun p hp => N9 p (by k_ownIn))
end
section -- ConMR
variable {w : World} {A₀ : Around} {base h₀ : Heap} {outer : List Env} {L a : Addr} {m : Str → Option Value} {news : List (Addr × Obj)} {g : Obj → List (Addr × Obj)} {s : Shared} {Q E : Value → Shared → Prop} {dp un : Nat} {gd : Option (List Code)} {cn : Str} {cs : Scope} {ccd : Value} {cl : List (Str × Addr)} {loose : List Str} {mean : ExcName → Option Value} {mg mb : Str → Option Value}
local macro_rules | `(tactic| omega) => `(tactic| walk_at "om9")
theorem kw_47 : True := by
  w_top off
  k_with_none
  k_with "kpk" => (rename _ ∧ _ => hh9; first | with_reducible exact hh9.1 | with_reducible exact hh9.2.1 | with_reducible exact hh9.2.2.1 | with_reducible exact hh9.2.2.2.1 | with_reducible exact hh9.2.2.2.2.1 | with_reducible exact hh9.2.2.2.2.2.1 | with_reducible exact hh9.2.2.2.2.2.2.1 | with_reducible exact hh9.2.2.2.2.2.2.2.1 | with_reducible exact hh9.2.2.2.2.2.2.2.2.1 | with_reducible exact hh9.2.2.2.2.2.2.2.2.2.1 | with_reducible exact hh9.2.2.2.2.2.2.2.2.2.2.1 | with_reducible exact hh9.2.2.2.2.2.2.2.2.2.2.2.1 | (clear hh9; walk_at "kpk"))
  k_with "om9" => first
      | with_reducible assumption
      | with_reducible exact Nat.le_refl _
      | decide
      | with_reducible exact Nat.le_trans (by assumption) (by decide)
      | with_reducible exact Nat.lt_of_lt_of_le (by assumption) (by decide)
      | ((with_reducible refine Nat.ne_of_lt ?_); walk_at "kpk")
      | ((with_reducible refine Nat.ne_of_gt ?_); walk_at "kpk")
      | ((with_reducible refine Nat.ne_of_gt (Nat.lt_trans ?_ (by assumption))); walk_at "kpk")
  k_with "k_in9" => first | k_in_fast | (with_reducible assumption) | exact Frag.In.keeps (by k_asm) (Fr.keep (by k_asm))
  k_with "k_enter9" => first
      | (refine' code_def2 ?k1 ?k2 ?k3 ?k4 ?k5 ?kA ?kF ?kK ?k6 ?k7 ?k8 ?k9 ?n9 ?r9 ?e9 ?kB ?_ ?c2 ?c3 ?c4 ?c5; (case kA => exact rfl); (case kF => exact rfl); (case kK => first | exact rfl | assumption); (case k1 => k_asm); (case k2 => k_asm); (case k3 => k_asm); (case k4 => k_asm); (case k5 => k_asm); (case k6 => k_is); (case k7 => k_is); (case k8 => k_room); (case k9 => first | exact BindsTo.of_eq rfl | exact binds_K (by k_in) rfl (by k_is) rfl rfl rfl | fail "k_enter: no rule for these arguments"); (case n9 => repeat' (first | exact NormL.nil | refine' NormL.cons _)); (case r9 => repeat' (first | exact NormL.nil | refine' NormL.cons _)); (case e9 => kernel_rfl); (case c5 => decide); (case kB => exact locs rfl); (case c2 => exact rfl); (case c3 => exact rfl); (case c4 => exact rfl); k_whole; intro g' L' h' tk' FG' F' N' B' X' T'; (try dsimp only at F'); (try dsimp only); (try k_lift B'); (try k_fold))
      | (refine' code_def ?k1 ?k2 ?k3 ?k4 ?k5 ?kA ?kF ?kK ?k6 ?k7 ?k8 ?k9 ?kB ?_ ?c2 ?c3 ?c4 ?c5; (case kA => exact rfl); (case kF => exact rfl); (case kK => first | exact rfl | assumption); (case k1 => k_asm); (case k2 => k_asm); (case k3 => k_asm); (case k4 => k_asm); (case k5 => k_asm); (case k6 => k_is); (case k7 => k_is); (case k8 => k_room); (case k9 => first | exact BindsTo.of_eq rfl | exact binds_K (by k_in) rfl (by k_is) rfl rfl rfl | fail "k_enter: no rule for these arguments"); (case c5 => decide); (case kB => exact locs rfl); (case c2 => exact rfl); (case c3 => exact rfl); (case c4 => exact rfl); k_whole; intro g' L' h' FG' F' N' B' X' T'; (try dsimp only); (try k_lift B'); (try k_fold))
      | (refine' code_defC ?k1 ?k2 ?k3 ?k4 ?k5 ?kA ?kF ?kK ?k6 ?k7 ?k8 ?k9 ?kB ?kD ?_ ?c2 ?c3 ?c4; (case kA => exact rfl); (case kF => exact rfl); (case kK => first | exact rfl | assumption); (case k1 => k_asm); (case k2 => k_asm); (case k3 => k_asm); (case k4 => k_asm); (case k5 => k_asm); (case k6 => k_is); (case k7 => k_is); (case k8 => k_room); (case k9 => first | exact BindsTo.of_eq rfl | exact binds_K (by k_in) rfl (by k_is) rfl rfl rfl | fail "k_enter: no rule for these arguments"); (case kB => exact rfl); (case kD => decide +kernel); (case c2 => exact rfl); (case c3 => exact rfl); (case c4 => exact rfl); k_whole; intro g' L' h' tk' cells' FG' F' N' Y' B' X' T' l1; (try k_lt l1); k_cells Y'; (try simp only [List.cons_append, List.nil_append] at N'); (try dsimp only); (try k_lift B'); (try k_fold))
  k_with "execs cons" => ((with_reducible show wpAny _ _ _ _ _ (Shared.mk _ _ _ (HAdd.hAdd _ _) _)); refine norm_st rfl ?_; intro _)
  k_with "hd9" => first | exact dltA (by assumption) 1 rfl | exact dltA (by assumption) 2 rfl | exact dltA (by assumption) 0 rfl | exact dltA (by assumption) 3 rfl | exact dltA (by assumption) 4 rfl | ((try simp only [depth_under_make, depth_under_kw, depth_in1, depth_deeper, depth_caller, mark_dep]); (try dsimp only [ktrTop]); omega)
  k_with "hu9" => first | exact dltA (by assumption) 3 rfl | exact dltA (by assumption) 4 rfl | exact dltA (by assumption) 7 rfl | exact dltA (by assumption) 8 rfl | exact dltA (by assumption) 6 rfl | exact dltA (by assumption) 0 rfl | ((try simp only [units_in1, units_deeper, Around.mark_units, units_caller]); (try dsimp only [ktrTop]); omega)
  k_with "subscriptTail" => (k_here; (with_reducible show wpAny _ _ (subscriptTail _ (Expr.Slice _ _ none _) (Value.bytes (List.toArray _) _) (Value.ref _)) _ _ _); (with_reducible rename Fr _ _ _ _ => F'); (with_reducible rename News _ _ _ _ => N'); (first
      | (refine sl_ik (s := ⟨_, _, _, _, _⟩) F' N' (by kba_size) (by kba_size) (by kba_size) ?_)
      | (refine sl_ij (s := ⟨_, _, _, _, _⟩) F' N' (by kba_size) (by kba_size) (by kba_size) ?_)
      | (refine sl_n1 (s := ⟨_, _, _, _, _⟩) F' N' (by kba_size) ?_)
      | (refine sl_i (s := ⟨_, _, _, _, _⟩) F' N' (by kba_size) (by kba_size) ?_)
      | (refine sl_j (s := ⟨_, _, _, _, _⟩) F' N' (by kba_size) (by kba_size) ?_)); (clear F' N'); intro _ _ _ _ _; (try k_sweep))
  k_with "binaryOp Add bytes bytes" => (k_here; (with_reducible show wpAny _ _ (binaryOp Operator.Add (Value.bytes (List.toArray _) _) (Value.bytes (List.toArray _) _)) _ _ _); (refine add_oc (by kba_size) ?_); intro _ _)
  k_with "call builtin:len" => (k_here; (with_reducible show wpAny _ _ (call (Value.builtin "len") [Value.bytes (List.toArray _) _]) _ _ _); (refine len_oc (by kba_size) ?_); (try simp only [List.length_append, List.length_cons, List.length_nil, List.length_take, List.length_drop]))
  k_with "compareOp Eq bytes bytes" => (k_here; (with_reducible show wpAny _ _ (compareOp CmpOp.Eq (Value.bytes (List.toArray _) _) (Value.bytes (List.toArray _) _)) _ _ _); refine eq_oc ?_)
  k_with "compareOp NotEq bytes bytes" => (k_here; (with_reducible show wpAny _ _ (compareOp CmpOp.NotEq (Value.bytes (List.toArray _) _) (Value.bytes (List.toArray _) _)) _ _ _); refine ne_oc ?_)
  k_with "subscriptTail" => (k_here; (with_reducible show wpAny _ _ (subscriptTail _ _ (Value.ref _) (Value.int _ _)) _ _ _); k_dflt (refine' menu4 ?N ?m ?h0 ?h1 ?_; (case N => k_asm); (case m => k_mem); (case h0 => exact Int.fmod_nonneg_of_pos _ (by decide)); (case h1 => exact Int.fmod_lt_of_pos _ (by decide)); k_whole); intro wd' tw' hwd')
  k_with "compareOp In bytes ref" => (k_here; (with_reducible show wpAny _ _ (compareOp CmpOp.In (Value.bytes (List.toArray _) _) (Value.ref _)) _ _ _); k_dflt (refine' in_tup2 ?N ?m ?_; (case N => k_asm); (case m => k_mem); k_whole))
  trivial
theorem temps_len : ∀ t ∈ temps, t.length < 5 := by decide
theorem temps_dev : ∀ t ∈ temps, ¬ t.take (Int.toNat 4) = [37, 111, 115, 37] := by decide
theorem names_nodup : namesL.Nodup := by decide
theorem names_len : ∀ n ∈ namesL, n.length ≤ 3 := by decide
theorem ltNe9 {L c : Addr} {news : List (Addr × Obj)} (h : ∀ p ∈ news, p.1 < L) (hc : @LE.le Nat _ L c) : ∀ p ∈ news, p.1 ≠ c := fun p hp => Nat.ne_of_lt (Nat.lt_of_lt_of_le (h p hp) hc)
theorem kw_48 : True := by
  k_with "k_all9" => first | (refine' List.forall_mem_cons.mpr ⟨?a, ?b⟩; (case a => first | k_ne | ((try dsimp only); omega)); (case b => k_all)) | (exact ltNe9 (by assumption) (by omega))
  trivial
section
open PySem.Calls PyProof.V PySem.Spec
variable {prog : Program} {w : World} {A : Around} {E : Value → Shared → Prop} {s : Shared} {h₀ : Heap} {L l : Addr} {news : List (Addr × Obj)} {Q : Value → Shared → Prop} {vs : List Value} {n : Nat} {bs : List (List UInt8)} {u : Tok} {i : Int}
theorem menu_bs {value slice : PySem.Expr} (N : News h₀ L s.heap news) (hm : (l, PySem.W.listOf vs.toArray n) ∈ news) (hA : BsAre vs bs) (h0 : 0 ≤ i) (h1 : i < (bs.length : Int)) (h2 : i < 1000)
    (h : ∀ td t, td ∈ bs → Q (.bytes (List.toArray td) t) s)
    (hs : subscripted slice false (.ref l) (.int i u) = operate [.ref l, .int i u] (getItem (.ref l) (.int i u)) := by with_unfolding_all rfl)
    (ht : ∀ r, letTemporaryGo value (.ref l) r = pure () := by intro _; with_unfolding_all rfl) :
    wpAny (model prog w) A (subscriptTail value slice (.ref l) (.int i u)) Q E s := by
  have hL : s.heap.IsList l vs.toArray := ⟨_, (N _ hm).1, rfl, n, rfl⟩
  obtain ⟨v, hv, t, rfl⟩ := (BsAre.are hA).get (i := i.toNat) (d := []) (by omega)
  exact subscriptTail_builtin hL.typeIs slot_list_getitem.lookup (wpAny_getItem_list hL h0 (by omega) (by simpa using hv) (h _ t (by
    show bs[i.toNat]?.getD [] ∈ bs
    have hi : i.toNat < bs.length := by omega
    rw [List.getElem?_eq_getElem hi]
    exact List.getElem_mem _))) hs ht
end
theorem kw_49 : True := by
  k_with "subscriptTail" => (k_here; (with_reducible show wpAny _ _ (subscriptTail _ _ (Value.ref _) (Value.int _ _)) _ _ _); k_dflt (refine kba_turn (value' := PySem.Expr.Name (Str.ofString "_") ⟨0, 0, 0, 0⟩) (fun _ => rfl) ?_); k_dflt (refine' menu_bs (bs := temps) ?N ?m ?A ?h0 ?h1 ?h2 (fun td9 tt9 htd9 => ?_); (case N => k_asm); (case m => k_mem); (case A => exact .cons _ _ (.cons _ _ (.cons _ _ (.cons _ _ (.cons _ _ (.cons _ _ (.cons _ _ (.cons _ _ (.cons _ _ .nil))))))))); (case h0 => exact Int.fmod_nonneg_of_pos _ (by decide)); (case h1 => exact Int.fmod_lt_of_pos _ (by decide)); (case h2 => exact Int.lt_trans (Int.fmod_lt_of_pos _ (by decide)) (by decide)); k_whole); (have hl9 : td9.length < 5 := temps_len td9 htd9); (have hdev9 : ¬ td9.take (Int.toNat 4) = [37, 111, 115, 37] := temps_dev td9 htd9))
  k_with "call ref" => (k_here; (with_reducible show wpAny _ _ (call (Value.ref 454) [Value.bytes (List.toArray _) _, Value.bytes (List.toArray _) _]) _ _ _); k_dflt (refine' law_fits 5 ?B ?F ?X ?T ?hk ?hd ?hu ?N ?hf ?hz ?hzx (fun h' tk' F' N' => ?_); (case N => k_asm); (case F => k_asm); (case B => k_asm); (case X => k_asm); (case T => k_asm); (case hk => first | exact rfl | assumption); (case hd => walk_at "hd9"); (case hu => walk_at "hu9"); (case hf => omega); (case hz => omega); (case hzx => omega)); (all_goals (try k_sweep)))
  k_with "call ref" => (k_here; (with_reducible show wpAny _ _ (call (Value.ref 400) [Value.ref _]) _ _ _); k_dflt (refine' ft_new ?B ?F ?X ?T ?hk ?hd ?hu ?N (fun tx9 tdx9 o9 h' tk' T9 F' N' lt9 lt9' => ?_); (case N => k_asm); (case F => k_asm); (case B => k_asm); (case X => k_asm); (case T => k_asm); (case hk => first | exact rfl | assumption); (case hd => walk_at "hd9"); (case hu => walk_at "hu9"); (have T9c : IsFT _ _ _ _ := T9; ((refine IsFT.elim T9c ?_; clear T9c; intro _ _ _ _ _ _ _ _ _ e9t)); (subst e9t))); (all_goals ((try dsimp only at F'); (try dsimp only at N'); (try dsimp only at lt9); (try dsimp only))); (all_goals (try (k_lt lt9))); (all_goals (try k_sweep)))
  k_with "call ref" => (k_here; (with_reducible show wpAny _ _ (call (Value.ref 397) [Value.ref _, Value.bytes (List.toArray _) _]) _ _ _); k_dflt (refine' matching_gives ?B ?F ?X ?T ?hk ?hd ?hu ?N ?ho ?hod ?lo ?h64 ?hnm ?hz ?hdev (fun D7 vs7 bs7 c7 h' tk' F' N' hB7 hp7 ha7 => ?_); (case N => k_asm); (case F => k_asm); (case B => k_asm); (case X => k_asm); (case T => k_asm); (case hk => first | exact rfl | assumption); (case hd => walk_at "hd9"); (case hu => walk_at "hu9"); (case ho => assumption); (case hod => assumption); (case lo => assumption); (case h64 => omega); (case hnm => assumption); (case hz => omega); (case hdev => assumption)); (all_goals (try k_sweep)))
  k_with "CompSrcT" => (refine stopT_ ?_)
  k_with "CompSrc" => (refine stopT_ ?_)
  k_with "call builtin:sorted" => (refine stopT_ ?_)
  k_with "call type:list" => (refine stopT_ ?_)
  k_with "call type:dict" => (refine stopT_ ?_)
  k_with "compareOp Eq ref ref" => (refine stopT_ ?_)
  k_with "eval ListComp" => (k_here; k_dflt (refine LCt.ListComp_T (F₀ := by k_asm) (by with_unfolding_all rfl) (by decide) (by rfl) (by decide) (by rfl) ?_))
  k_with "eval ListComp Tuple cons" => (k_here; k_dflt (refine LCg.ListComp_U (F₀ := by k_asm) (by with_unfolding_all rfl) (by decide) (by rfl) (by decide) (by rfl) ?_))
  trivial
noncomputable def pickP (z : Int) (k : Nat) : Bool := decide (Int.fmod (Int.fdiv z ((2 : Int) ^ k)) 2 = 1)
noncomputable def nameR (k : Nat) (v : Value) : Prop := ∃ t, v = .bytes (List.toArray (namesL.getD k [])) t
theorem lt7 {k : Nat} (h : k ∈ List.range 7) : k = 0 ∨ k = 1 ∨ k = 2 ∨ k = 3 ∨ k = 4 ∨ k = 5 ∨ k = 6 := by
  have h := List.mem_range.mp h
  match k, h with
  | 0, _ => exact .inl rfl
  | 1, _ => exact .inr (.inl rfl)
  | 2, _ => exact .inr (.inr (.inl rfl))
  | 3, _ => exact .inr (.inr (.inr (.inl rfl)))
  | 4, _ => exact .inr (.inr (.inr (.inr (.inl rfl))))
  | 5, _ => exact .inr (.inr (.inr (.inr (.inr (.inl rfl)))))
  | 6, _ => exact .inr (.inr (.inr (.inr (.inr (.inr rfl)))))
  | k + 7, h => exact absurd h (Nat.not_lt.mpr (Nat.le_add_left 7 k))
theorem matching_right
  {z : Int} {tz : Tok}
  (B : Below A₀ base outer h₀) (F : Fr h₀ L s.heap m) (X : (hd.heap_1 w.params).In h₀) (T : Top topProg loose mean mg mb h₀) (hk : cs.kind = .function) (hdp : dp < 440) (hun : un < 300)
  (N : News h₀ L s.heap news) (h0 : 0 ≤ z) (hz : z ≤ 100000000)
  (ret : ∀ h' tk, Fr h₀ L h' m → News h₀ L h' news → Q (.bool true) { s with heap := h', toks := tk }) :
  wpAny (model rw_on0267_01.row.prog w) (ktrTop dp un gd cn cs L a ccd cl outer) (call (.ref 459) [.int z tz]) Q E s := by
  revert X
  k_fill
  intro X
  refine wpAny_call ?_
  k_enter
  k_steps
  unfold StopT
  refine LCt.CompSrcT.range (a := 0) (b := 7) (n := 7) (by rfl) (by k_asm) (by k_asm) (by assumption) (small_one (by omega) (by omega) (by omega) (by omega)) (rangeSize_nat 0 7) (by (rw [PySem.sizeLine_eq]; omega)) ?_
  intro g9
  refine' ct_rest (ks := List.range 7) natR (pickP z) nameR (by simp) ?cP ?turn ?fin
  case cP =>
    intro i9 v9 hi9 hv9
    obtain ⟨t6, rfl⟩ := hv9
    exact ⟨i9, List.getElem?_range hi9, natR_of (by omega)⟩
  case turn =>
    intro k v I oI C oC D m₂ ys h tk E' hk hs hC hx F9 N9 off ne
    obtain ⟨t5, rfl⟩ := hs
    have hcase := lt7 hk
    clear hk
    rcases hcase with rfl | rfl | rfl | rfl | rfl | rfl | rfl
    all_goals dsimp only [Int.cast_ofNat_Int] at hx
    all_goals k_steps
    all_goals (rename News _ _ _ _ => N8)
    all_goals (rename Fr _ _ _ _ => F8)
    all_goals first
      | (rename (Int.fmod (Int.fdiv _ _) _ = _) => h9; exact LCg.CompEnd.intro F8 N8 _ (fun p hp => hp) off trivial ⟨rfl, decide_eq_true h9, ⟨_, rfl⟩⟩)
      | (rename (¬ (Int.fmod (Int.fdiv _ _) _ = _)) => h9; exact LCg.CompEnd.intro F8 N8 _ (fun p hp => hp) off trivial ⟨rfl, decide_eq_false h9⟩)
  case fin =>
    intro ys hA
    unfold LCg.FinA
    intro D1 h' tk' F' N' o1'
    obtain ⟨bs, hB, hsub⟩ : ∃ bs, BsAre ys bs ∧ bs.Sublist namesL := ⟨_, AreR.bs (f := fun k => namesL.getD k []) hA, List.Sublist.map (f := fun k => namesL.getD k []) List.filter_sublist⟩
    clear hA
    have hnd : bs.Nodup := names_nodup.sublist hsub
    have hbl : bs.length ≤ 7 := hsub.length_le
    have hyl : ys.length = bs.length := hB.length
    have hnl : ∀ b ∈ bs, b.length ≤ 3 := fun b hb => names_len b (hsub.subset hb)
    unfold LCg.lst at N'
    have o2 := o1'
    obtain ⟨q1, q2, q3, q4, -⟩ := o2
    replace q1 : @Ne Nat _ _ := q1
    replace q2 : @Ne Nat _ _ := q2
    replace q3 : @Ne Nat _ _ := q3
    replace q4 : @Ne Nat _ _ := q4
    k_steps
    unfold StopT
    refine LCg.CompSrc.ledger (by rfl) (by k_asm) (by k_asm) (by k_mem) (by (rw [PySem.sizeLine_eq]; simp only [List.size_toArray]; omega)) ?_
    intro g9
    refine' cp_rest (ks := bs) (fun b v => ∃ t, v = .bytes (List.toArray b) t) (fun b v => ∃ t, v = .bytes (List.toArray b) t) (fun v => True) (by simp only [List.size_toArray]; omega) ?cP ?cS ?ct ?cf
    case cP =>
      intro i9 v9 hi9 hv9
      exact (BsAre.are hB).pick (by simpa using hv9)
    case cS => exact .inr ⟨_, by k_mem, rfl, _, rfl⟩
    case ct =>
      intro cur k v I oI C oC D m₂ ys h tk E' hc hS hk hs hC hx F9 N9 off ne
      obtain ⟨t5, rfl⟩ := hs
      k_steps
      (rename News _ _ _ _ => N8); (rename Fr _ _ _ _ => F8)
      refine' LCg.CompEnd.intro F8 N8 ((_, tupObj #[_, _]) :: cur) (fun p hp => mem_rot hp) ?off (srcAt_cons hS) ⟨_, _, _, rfl, rfl, ⟨_, rfl⟩, trivial⟩
      case off => exact ⟨⟨by omega, by omega, by omega⟩, off⟩
    case cf =>
      intro ys' news' hT hsub'
      unfold LCg.FinE
      intro D' h' tk' F' N' o1'
      k_steps
      unfold StopT
      refine' dictT_K (knd := bytesKind _ _) (f := fun b : List UInt8 => b) (by rfl) F' N' (Top.nolimit (by k_asm)) hT hsub' (fun k v hv => by obtain ⟨t6, rfl⟩ := hv; exact bk_is _ _ _ _) (by omega) (fun d8 h' o8 tk kvs8 F' N' ld8 lo8 hd8 hm8 => ?_)
      clear hT hsub'
      rw [List.map_id'] at hm8
      have hmg8 : merged [] kvs8 = kvs8 := merged_nil_of_nodup kvs8 (by rw [hm8]; exact hnd)
      rw [hmg8] at hd8
      have hkl8 : kvs8.length = bs.length := by rw [← hm8, List.length_map]
      have hnm8 : ∀ p ∈ kvs8, p.1.length ≤ 100 := fun p hp => Nat.le_trans (hnl p.1 (by rw [← hm8]; exact List.mem_map_of_mem hp)) (by decide)
      k_lt ld8
      k_steps
      unfold StopT
      have hl7 : vs7.length ≤ 7 := by
        have e1 := hB7.length
        have e2 := hp7.length_eq
        have e3 := List.length_filter_le (fun n => runF (partsOf td9) [0] n) bs7
        rw [List.length_map] at e2
        omega
      refine' kup_listOf (zs := vs7) ?lF ?lN ?lm (by rfl) (fun D6 c6 h' F' N' l6 => ?_) ?lz
      case lF => k_asm
      case lN => k_asm
      case lm => k_mem
      case lz => rw [PySem.sizeLine_eq]; simp only [Array.length_toList, List.size_toArray]; omega
      (try dsimp only at l6)
      k_lt l6
      k_steps
      unfold StopT
      refine LCt.CompSrcT.ledger (by rfl) (by k_asm) (by k_asm) (by k_mem) (by (rw [PySem.sizeLine_eq]; simp only [List.size_toArray]; omega)) ?_
      intro g8
      refine' ct_rest (ks := bs) (fun b v => ∃ t, v = .bytes (List.toArray b) t) (fun n => lawF 5 td9 n) (fun b v => ∃ t, v = .bytes (List.toArray b) t) (by simp only [List.size_toArray]; omega) ?dP ?dt ?df
      case dP =>
        intro i9 v9 hi9 hv9
        exact (BsAre.are hB).pick (by simpa using hv9)
      case dt =>
        intro k v I oI C oC D m₂ ys h tk E' hk hs hC hx F9 N9 off ne
        obtain ⟨t5, rfl⟩ := hs
        have hkl := hnl k hk
        k_steps
        · (rename News _ _ _ _ => N8); (rename Fr _ _ _ _ => F8)
          exact LCg.CompEnd.intro F8 N8 _ (fun p hp => hp) off (.inr ⟨_, by k_mem, rfl, _, rfl⟩) ⟨rfl, by assumption, ⟨_, rfl⟩⟩
        · (rename News _ _ _ _ => N8); (rename Fr _ _ _ _ => F8)
          exact LCg.CompEnd.intro F8 N8 _ (fun p hp => hp) off (.inr ⟨_, by k_mem, rfl, _, rfl⟩) ⟨rfl, (by (first | assumption | exact Bool.eq_false_iff.mpr (by assumption)))⟩
      case df =>
        intro ys2 hA2
        unfold LCg.FinE
        intro D5 h' tk' F' N' o5
        unfold LCg.lst at N'
        have hB2 : BsAre ys2 (bs.filter fun n => lawF 5 td9 n) := by simpa using AreR.bs (f := fun x => x) hA2
        have hl2 : (bs.filter fun n => lawF 5 td9 n).length ≤ bs.length := List.length_filter_le _ _
        k_steps
        unfold StopT
        refine' sorted_B ?sF ?sN ?sl hB2 (by omega) (fun D4 vs4 bs4 c4 h' F' N' l4 hB4 hp4 ha4 => ?_)
        case sF => k_asm
        case sN => k_asm
        case sl => exact ⟨_, (N' _ (.head _)).1, rfl, _, rfl⟩
        (try dsimp only at l4)
        k_lt l4
        k_steps
        unfold StopT
        have heq : (bs7.filter fun n => runF (partsOf td9) [0] n) = bs4 := by
          refine asc_uniq (((hp7.filter _).trans ?_).trans hp4.symm) (List.Pairwise.filter _ ha7) ha4
          rw [hm8, List.filter_congr fun n hn => fits_same td9 htd9 n (hsub.subset hn)]
        rw [heq] at hB7
        refine' eq_lists_same ?eN ?em ?en ?eu (EqsAt.bs hB7 hB4) ?_
        case eN => k_asm
        case em => k_mem
        case en => k_mem
        case eu => ((try simp only [units_in1, units_deeper, Around.mark_units, units_caller]); (try dsimp only [ktrTop]); (have hcL9 := cLine_is); omega)
        k_steps
        (rename News h₀ L _ _ => N9); (rename Fr h₀ L _ m => F9)
        exact ret _ _ F9 (fun p hp => N9 p (by k_ownIn))
end
section -- LawT
local macro_rules | `(tactic| omega) => `(tactic| walk_at "om9")
theorem kw_50 : True := by
  w_top off
  k_with_none
  k_with "kpk" => (rename _ ∧ _ => hh9; first | with_reducible exact hh9.1 | with_reducible exact hh9.2.1 | with_reducible exact hh9.2.2.1 | with_reducible exact hh9.2.2.2.1 | with_reducible exact hh9.2.2.2.2.1 | with_reducible exact hh9.2.2.2.2.2.1 | with_reducible exact hh9.2.2.2.2.2.2.1 | with_reducible exact hh9.2.2.2.2.2.2.2.1 | with_reducible exact hh9.2.2.2.2.2.2.2.2.1 | with_reducible exact hh9.2.2.2.2.2.2.2.2.2.1 | with_reducible exact hh9.2.2.2.2.2.2.2.2.2.2.1 | with_reducible exact hh9.2.2.2.2.2.2.2.2.2.2.2.1 | (clear hh9; walk_at "kpk"))
  k_with "om9" => first
      | with_reducible assumption
      | with_reducible exact Nat.le_refl _
      | decide
      | with_reducible exact Nat.le_trans (by assumption) (by decide)
      | with_reducible exact Nat.lt_of_lt_of_le (by assumption) (by decide)
      | ((with_reducible refine Nat.ne_of_lt ?_); walk_at "kpk")
      | ((with_reducible refine Nat.ne_of_gt ?_); walk_at "kpk")
      | ((with_reducible refine Nat.ne_of_gt (Nat.lt_trans ?_ (by assumption))); walk_at "kpk")
  k_with "k_in9" => first | k_in_fast | (with_reducible assumption) | exact Frag.In.keeps (by k_asm) (Fr.keep (by k_asm))
  k_with "k_enter9" => first
      | (refine' code_def2 ?k1 ?k2 ?k3 ?k4 ?k5 ?kA ?kF ?kK ?k6 ?k7 ?k8 ?k9 ?n9 ?r9 ?e9 ?kB ?_ ?c2 ?c3 ?c4 ?c5; (case kA => exact rfl); (case kF => exact rfl); (case kK => first | exact rfl | assumption); (case k1 => k_asm); (case k2 => k_asm); (case k3 => k_asm); (case k4 => k_asm); (case k5 => k_asm); (case k6 => k_is); (case k7 => k_is); (case k8 => k_room); (case k9 => first | exact BindsTo.of_eq rfl | exact binds_K (by k_in) rfl (by k_is) rfl rfl rfl | fail "k_enter: no rule for these arguments"); (case n9 => repeat' (first | exact NormL.nil | refine' NormL.cons _)); (case r9 => repeat' (first | exact NormL.nil | refine' NormL.cons _)); (case e9 => kernel_rfl); (case c5 => decide); (case kB => exact locs rfl); (case c2 => exact rfl); (case c3 => exact rfl); (case c4 => exact rfl); k_whole; intro g' L' h' tk' FG' F' N' B' X' T'; (try dsimp only at F'); (try dsimp only); (try k_lift B'); (try k_fold))
      | (refine' code_def ?k1 ?k2 ?k3 ?k4 ?k5 ?kA ?kF ?kK ?k6 ?k7 ?k8 ?k9 ?kB ?_ ?c2 ?c3 ?c4 ?c5; (case kA => exact rfl); (case kF => exact rfl); (case kK => first | exact rfl | assumption); (case k1 => k_asm); (case k2 => k_asm); (case k3 => k_asm); (case k4 => k_asm); (case k5 => k_asm); (case k6 => k_is); (case k7 => k_is); (case k8 => k_room); (case k9 => first | exact BindsTo.of_eq rfl | exact binds_K (by k_in) rfl (by k_is) rfl rfl rfl | fail "k_enter: no rule for these arguments"); (case c5 => decide); (case kB => exact locs rfl); (case c2 => exact rfl); (case c3 => exact rfl); (case c4 => exact rfl); k_whole; intro g' L' h' FG' F' N' B' X' T'; (try dsimp only); (try k_lift B'); (try k_fold))
      | (refine' code_defC ?k1 ?k2 ?k3 ?k4 ?k5 ?kA ?kF ?kK ?k6 ?k7 ?k8 ?k9 ?kB ?kD ?_ ?c2 ?c3 ?c4; (case kA => exact rfl); (case kF => exact rfl); (case kK => first | exact rfl | assumption); (case k1 => k_asm); (case k2 => k_asm); (case k3 => k_asm); (case k4 => k_asm); (case k5 => k_asm); (case k6 => k_is); (case k7 => k_is); (case k8 => k_room); (case k9 => first | exact BindsTo.of_eq rfl | exact binds_K (by k_in) rfl (by k_is) rfl rfl rfl | fail "k_enter: no rule for these arguments"); (case kB => exact rfl); (case kD => decide +kernel); (case c2 => exact rfl); (case c3 => exact rfl); (case c4 => exact rfl); k_whole; intro g' L' h' tk' cells' FG' F' N' Y' B' X' T' l1; (try k_lt l1); k_cells Y'; (try simp only [List.cons_append, List.nil_append] at N'); (try dsimp only); (try k_lift B'); (try k_fold))
  k_with "execs cons" => ((with_reducible show wpAny _ _ _ _ _ (Shared.mk _ _ _ (HAdd.hAdd _ _) _)); refine norm_st rfl ?_; intro _)
  k_with "hd9" => first | exact dltA (by assumption) 1 rfl | exact dltA (by assumption) 2 rfl | exact dltA (by assumption) 0 rfl | exact dltA (by assumption) 3 rfl | exact dltA (by assumption) 4 rfl | ((try simp only [depth_under_make, depth_under_kw, depth_in1, depth_deeper, depth_caller, mark_dep]); (try dsimp only [ktrTop]); omega)
  k_with "hu9" => first | exact dltA (by assumption) 3 rfl | exact dltA (by assumption) 4 rfl | exact dltA (by assumption) 7 rfl | exact dltA (by assumption) 8 rfl | exact dltA (by assumption) 6 rfl | exact dltA (by assumption) 0 rfl | ((try simp only [units_in1, units_deeper, Around.mark_units, units_caller]); (try dsimp only [ktrTop]); omega)
  k_with "subscriptTail" => (k_here; (with_reducible show wpAny _ _ (subscriptTail _ (Expr.Slice _ _ none _) (Value.bytes (List.toArray _) _) (Value.ref _)) _ _ _); (with_reducible rename Fr _ _ _ _ => F'); (with_reducible rename News _ _ _ _ => N'); (first
      | (refine sl_ik (s := ⟨_, _, _, _, _⟩) F' N' (by kba_size) (by kba_size) (by kba_size) ?_)
      | (refine sl_ij (s := ⟨_, _, _, _, _⟩) F' N' (by kba_size) (by kba_size) (by kba_size) ?_)
      | (refine sl_n1 (s := ⟨_, _, _, _, _⟩) F' N' (by kba_size) ?_)
      | (refine sl_i (s := ⟨_, _, _, _, _⟩) F' N' (by kba_size) (by kba_size) ?_)
      | (refine sl_j (s := ⟨_, _, _, _, _⟩) F' N' (by kba_size) (by kba_size) ?_)); (clear F' N'); intro _ _ _ _ _; (try k_sweep))
  k_with "binaryOp Add bytes bytes" => (k_here; (with_reducible show wpAny _ _ (binaryOp Operator.Add (Value.bytes (List.toArray _) _) (Value.bytes (List.toArray _) _)) _ _ _); (refine add_oc (by kba_size) ?_); intro _ _)
  k_with "call builtin:len" => (k_here; (with_reducible show wpAny _ _ (call (Value.builtin "len") [Value.bytes (List.toArray _) _]) _ _ _); (refine len_oc (by kba_size) ?_); (try simp only [List.length_append, List.length_cons, List.length_nil, List.length_take, List.length_drop]))
  k_with "compareOp Eq bytes bytes" => (k_here; (with_reducible show wpAny _ _ (compareOp CmpOp.Eq (Value.bytes (List.toArray _) _) (Value.bytes (List.toArray _) _)) _ _ _); refine eq_oc ?_)
  k_with "compareOp NotEq bytes bytes" => (k_here; (with_reducible show wpAny _ _ (compareOp CmpOp.NotEq (Value.bytes (List.toArray _) _) (Value.bytes (List.toArray _) _)) _ _ _); refine ne_oc ?_)
  trivial
theorem news_turn7 {h₀ h : Heap} {L : Addr} {a b c d e f g : Addr × Obj} (N : News h₀ L h [a, b, c, d, e, f, g]) : News h₀ L h (a :: g :: [f, d, b, c, e]) := List.forall_mem_cons.mpr ⟨N _ (by k_mem), List.forall_mem_cons.mpr ⟨N _ (by k_mem), List.forall_mem_cons.mpr ⟨N _ (by k_mem), List.forall_mem_cons.mpr ⟨N _ (by k_mem), List.forall_mem_cons.mpr ⟨N _ (by k_mem), List.forall_mem_cons.mpr ⟨N _ (by k_mem), List.forall_mem_cons.mpr ⟨N _ (by k_mem), List.forall_mem_nil _⟩⟩⟩⟩⟩⟩⟩
theorem news_turn7b {h₀ h : Heap} {L : Addr} {a b c d e f g x : Addr × Obj} (N : News h₀ L h [a, b, c, d, e, f, g, x]) : News h₀ L h (a :: d :: [c, b, e, f, g, x]) := List.forall_mem_cons.mpr ⟨N _ (by k_mem), List.forall_mem_cons.mpr ⟨N _ (by k_mem), List.forall_mem_cons.mpr ⟨N _ (by k_mem), List.forall_mem_cons.mpr ⟨N _ (by k_mem), List.forall_mem_cons.mpr ⟨N _ (by k_mem), List.forall_mem_cons.mpr ⟨N _ (by k_mem), List.forall_mem_cons.mpr ⟨N _ (by k_mem), List.forall_mem_cons.mpr ⟨N _ (by k_mem), List.forall_mem_nil _⟩⟩⟩⟩⟩⟩⟩⟩
theorem cell_bounds {l : List Int} {n : Int} {k : Nat} (hn : n ∈ List.drop k (List.map (fun k' : Int => (if k' < 0 then -k' else k').fmod (10 ^ 6)) l)) : 0 ≤ n ∧ n ≤ 1000000 := by
  obtain ⟨k, _, rfl⟩ := List.mem_map.mp (List.mem_of_mem_drop hn)
  have h1 := Int.fmod_nonneg_of_pos (if k < 0 then -k else k) (show (0 : Int) < 10 ^ 6 by decide)
  have h2 := Int.fmod_lt_of_pos (if k < 0 then -k else k) (show (0 : Int) < 10 ^ 6 by decide)
  exact ⟨h1, by omega⟩
theorem sum_bounds : ∀ (l : List Int) (k : Nat), l.length ≤ k → (∀ n ∈ l, 0 ≤ n ∧ n ≤ 1000000) → 0 ≤ l.sum ∧ l.sum ≤ 1000000 * (k : Int)
  | [], k, _, _ => ⟨by simp, by simp only [List.sum_nil]; omega⟩
  | n :: l, 0, h, _ => by simp at h
  | n :: l, k + 1, h, hb => by
    have h1 := sum_bounds l k (by simpa using h) fun x hx => hb x (List.mem_cons_of_mem _ hx)
    have h2 := hb n List.mem_cons_self
    rw [List.sum_cons]
    push_cast
    omega
theorem cells_sum (l : List Int) : 0 ≤ (List.map (fun k' : Int => (if k' < 0 then -k' else k').fmod (10 ^ Int.toNat 6)) (List.take 14 l)).sum ∧ (List.map (fun k' : Int => (if k' < 0 then -k' else k').fmod (10 ^ Int.toNat 6)) (List.take 14 l)).sum ≤ 100000000 := by
  have h := sum_bounds (List.map (fun k' : Int => (if k' < 0 then -k' else k').fmod (10 ^ Int.toNat 6)) (List.take 14 l)) 14 (by rw [List.length_map, List.length_take]; omega) (fun n hn => cell_bounds (k := 0) (l := List.take 14 l) (by simpa using hn))
  exact ⟨h.1, by omega⟩
theorem goodW_turned {c : ClaimW} {cl : Str → Option Addr} {mean : ExcName → Option Value} {args : List WData} {s₁ s' : Shared} {b : Bool} {A₀ : Around} {outer : List Env} {g : Heap} {L : Addr} {m : Str → Option Value}
    (B : Below A₀ s₁.heap outer g) (F : Fr g L s'.heap m) (hg : s'.gens = #[]) (hn : ∀ cls, c.raises args cls = false) (hp : c.post args (.bool b) args = true) (hos : s'.os = s₁.os := by rfl) :
    GoodW c cl mean args s₁ (.ok (.ret (.bool b))) s' :=
  ⟨.inl ⟨_, _, _, rfl, hn, .bool b, hp, unshared_nil⟩, fun a o h => F.keep a o (B.stays a o h), hos, hg⟩
theorem kw_51 : True := by
  k_with "call ref" => (k_here; (with_reducible show wpAny _ _ (call (Value.ref 437) _) _ _ _); refine stop_ ?_)
  k_with "call ref" => (k_here; (with_reducible show wpAny _ _ (call (Value.ref 459) _) _ _ _); refine stop_ ?_)
  k_with "call ref" => (k_here; (with_reducible show wpAny _ _ (call (Value.ref 449) _) _ _ _); refine stop_ ?_)
  trivial
theorem lawT : rw_on0267_01.Holds := hd (by
  k_go0
  all_goals try k_fold
  k_steps
  unfold Stop
  (rename News _ _ _ _ => N9)
  (rename (_ < _ ∧ _ < _ ∧ _ < _ ∧ _ < _ ∧ _ < _ ∧ _ < _) => l9)
  (rename (_ ≠ _ ∧ _ ≠ _ ∧ _ ≠ _ ∧ _ ≠ _ ∧ _ ≠ _) => o9)
  (rename (_ < _ ∧ _ < _ ∧ _ < _ ∧ _ < _) => l8)
  (rename (_ ≠ _ ∧ _ ≠ _ ∧ _ ≠ _) => o8)
  (rename (_ < _ ∧ _ < _) => l7)
  refine' reader_right ?B ?F ?X ?T ?hk ?hd ?hu ?XB ?TB ?D (news_turn7 N9) ?off ?hlc ?CD ?hi ?hn ?hz ?hoc (fun h₀' h' tk' ps' KT F' N' B' X' T' D' => ?_)
  case B => k_asm
  case F => k_asm
  case X => k_asm
  case T => k_asm
  case XB => k_asm
  case TB => k_asm
  case hk => rfl
  case CD => assumption
  case hi => assumption
  case hd => decide
  case hu => decide
  case D => first | trivial | exact (fun _ h => nomatch h) | simp [KtsDicts]
  case hlc => exact Nat.ne_of_gt l9.2.2.2.2.2
  case off =>
    obtain ⟨a1, a2, a3, a4, a5, a6⟩ := l9
    obtain ⟨b1, b2, b3, b4⟩ := l8
    obtain ⟨c1, c2, c3, c4, c5⟩ := o9
    obtain ⟨d1, d2, d3⟩ := o8
    obtain ⟨e1, e2⟩ := l7
    repeat' (first | exact List.forall_mem_nil _ | refine List.forall_mem_cons.mpr ⟨?_, ?_⟩)
    all_goals dsimp only
    all_goals first | (refine Nat.ne_of_lt ?_; assumption) | (refine Nat.ne_of_gt ?_; assumption) | assumption | (refine Ne.symm ?_; assumption) | decide
  case hn => exact fun n hn => cell_bounds hn
  case hz => simp only [List.length_drop, List.length_map, List.length_take]; first | exact Nat.le_trans (Nat.sub_le _ _) (Nat.min_le_left _ _) | exact Nat.le_trans (Nat.sub_le _ _) (Nat.le_trans (Nat.min_le_left _ _) (by decide)) | omega
  case hoc => simp only [List.length_drop, List.length_map, List.length_take]; first | exact Nat.min_le_left _ _ | omega
  (try dsimp only [List.filterMap_nil] at KT)
  all_goals try k_lift B'
  k_steps
  unfold Stop
  (rename News _ _ _ _ => N10)
  (rename (_ < _ ∧ _ < _ ∧ _ < _ ∧ _ < _ ∧ _ < _ ∧ _ < _ ∧ _ < _) => l10)
  clear N9
  refine' disk_right ?B ?F ?X ?T ?hk ?hd ?hu ?XB ?TB ?D (news_turn7b N10) ?off ?hlc ?CD ?hi ?hn ?hz ?hoc (fun h₀' h' tk' ps' KT F' N' B' X' T' D' => ?_)
  case B => k_asm
  case F => k_asm
  case X => k_asm
  case T => k_asm
  case XB => k_asm
  case TB => k_asm
  case hk => rfl
  case CD => assumption
  case hi => assumption
  case hd => decide
  case hu => decide
  case D => first | trivial | exact (fun _ h => nomatch h) | simp [KtsDicts]
  case hlc => exact Nat.ne_of_gt l10.2.2.1
  case off =>
    obtain ⟨g1, g2, g3, g4, g5, g6, g7⟩ := l10
    obtain ⟨a1, a2, a3, a4, a5, a6⟩ := l9
    obtain ⟨b1, b2, b3, b4⟩ := l8
    obtain ⟨c1, c2, c3, c4, c5⟩ := o9
    obtain ⟨d1, d2, d3⟩ := o8
    obtain ⟨e1, e2⟩ := l7
    repeat' (first | exact List.forall_mem_nil _ | refine List.forall_mem_cons.mpr ⟨?_, ?_⟩)
    all_goals dsimp only
    all_goals first | (refine Nat.ne_of_lt ?_; assumption) | (refine Nat.ne_of_gt ?_; assumption) | assumption | (refine Ne.symm ?_; assumption) | decide
  case hn => exact fun n hn => cell_bounds hn
  case hz => simp only [List.length_drop, List.length_map, List.length_take]; first | exact Nat.le_trans (Nat.sub_le _ _) (Nat.min_le_left _ _) | exact Nat.le_trans (Nat.sub_le _ _) (Nat.le_trans (Nat.min_le_left _ _) (by decide)) | omega
  case hoc => simp only [List.length_map, List.length_take]; first | exact Nat.min_le_left _ _ | omega
  (try dsimp only [List.filterMap_nil] at KT)
  all_goals try k_lift B'
  k_steps
  unfold Stop
  (rename News _ _ _ _ => N11)
  refine' matching_right ?B ?F ?X ?T ?hk ?hd ?hu N11 ?h0 ?hz (fun h' tk' F' N' => ?_)
  case B => k_asm
  case F => k_asm
  case X => k_asm
  case T => k_asm
  case hk => rfl
  case hd => decide
  case hu => decide
  case h0 => exact (cells_sum _).1
  case hz => exact (cells_sum _).2
  refine And.intro ?_ ?_
  rotate_left
  · (rename News _ _ _ _ => N12)
    refine ⟨GrownAt.of N12 (ps := ?p1) ?_, GrownAt.of N12 (ps := ?p2) ?_, True.intro⟩
    case refine_1 => k_mem
    case refine_2 => k_mem
  · refine goodW_turned (by assumption) (by assumption) (by assumption) (raisesW_false ?_) ?_
    · wrow_none_raised
    · wrow_post)
end
end Mine

theorem PySem.Challenge.cw_on0267_01_holds : PySem.Challenge.rw_on0267_01.Holds :=
  Mine.lawT
