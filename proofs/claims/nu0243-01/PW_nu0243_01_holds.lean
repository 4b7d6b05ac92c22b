import PyProof.Rows.All
import Wide.All
import OpenK.AllK
import Wide.FinOn
import PySem.Challenge.RW_nu0243_01
open PySem PySem.W PyProof.Rows
set_option Elab.async false
set_option compiler.extract_closed false
set_option maxRecDepth 100000
set_option maxHeartbeats 8000000
set_option rowWalk.seconds 0
namespace Mine
/-- the text's statements that the claim looks at -/
def V : Program := view PySem.Challenge.rw_nu0243_01.row.toRowW.prog [0, 2, 3, 5, 6, 7, 9, 10, 11, 12, 13, 14, 15, 16]

/-- the top's run, begun behind the library's own boot -/
theorem left_of_boot {p q : Program} {loose : List Str} {Xt : Shared → Bool} {α : Type} {Yf : Shared → α} {Ya : World → α} {N : Nat} {g0 : Bool}
    (e : opening p = plainProg p.main.scope.names) (hN : Nat.ble 600 N = true) (f : ∀ s, fenceModules? p s = some s)
    (h : ∀ w : World, (fun os => (topFrom treeTable p w N ⟨boot_heap w.params, Array.mk [], boot_drawn, boot_toks, os⟩).map (fun s => (openSeen q loose (importedModules p.main.body) Xt g0 s, Yf s))) = fun _ => some (openGood q loose, Ya w)) :
    LeftO p q loose Xt Yf Ya N g0 := fun w => by
  obtain ⟨⟨h', gs, d, k, os⟩, e1, e'⟩ := Option.map_eq_some_iff.mp (boot_open e hN f w)
  obtain ⟨rfl, rfl, rfl, rfl⟩ : h' = boot_heap w.params ∧ gs = Array.mk [] ∧ d = boot_drawn ∧ k = boot_toks := by simpa using e'
  unfold openEnds
  rw [e1]
  exact congrFun (h w) os
theorem hl1 : opening PySem.Challenge.rw_nu0243_01.row.toRowW.prog = plainProg PySem.Challenge.rw_nu0243_01.row.toRowW.prog.main.scope.names := by kernel_rfl
theorem hl2 : ∀ s, fenceModules? PySem.Challenge.rw_nu0243_01.row.toRowW.prog s = some s := by intro s; kernel_rfl
theorem said : PySem.Challenge.rw_nu0243_01.wellSaid = true := by
  delta OpenLaw.wellSaid OpenRow.wellSaid OpenRow.partSaid looksOpen
  rewrite [PySem.W.Fast.te11788848310118352699, PySem.W.Fast.te2368527892694137696, PySem.W.Fast.te12862048085361865435, PySem.W.Fast.te8377067652309620493, PySem.W.Fast.te14412699480532031325, PySem.W.Fast.te8326940854005059898, PySem.W.Fast.te5923862056798008813,
    PySem.W.Fast.te17691160309236699985, PySem.W.Fast.te13343964577679436407, PySem.W.Fast.te17119622794617984870, PySem.W.Fast.te17868728402115742887, PySem.W.Fast.named_eq, PySem.W.Fast.te10501279942588096481, PySem.W.Fast.te8179353310426384613,
    PySem.W.Fast.te797321630700447069, PySem.W.Fast.te9572597257264208301, PySem.W.Fast.te9558739934217749035, PySem.W.Fast.te16286561074155671207, PySem.W.Fast.te6984425678791042302, PySem.W.Fast.te482687673346738481, PySem.W.Fast.te10792542408131684335]
  kernel_rfl
local macro_rules | `(tactic| o_law) => `(tactic| refine holds_law Mine.said fun said => ?_)
theorem headed (H : Hook) {d : DefRec} {kwd : List (Str × Expr)} (hl : LeftO PySem.Challenge.rw_nu0243_01.row.prog V [] (fun s => xlAt V [] s && recOk (RowW.records PySem.Challenge.rw_nu0243_01.row.toRowW) s) H.obs H.val 2870)
    (hdef : defOf V PySem.Challenge.rw_nu0243_01.row.name = some (d, kwd)) (hp : PySem.Challenge.rw_nu0243_01.row.prog.theDef PySem.Challenge.rw_nu0243_01.row.name = some (d.params, d.body, d.scope)) (hk : kwWritten? d.params.kwonlyargs d.params.kw_defaults = some kwd)
    (k1 : PySem.Challenge.rw_nu0243_01.row.wellSaid = true) (hw : PySem.Challenge.rw_nu0243_01.row.toRowW.promised) (call : WalkO V [] (XL V []) H.says PySem.Challenge.rw_nu0243_01.row.toRowW d kwd fun f vs => PySem.call f vs) : PySem.Challenge.rw_nu0243_01.row.Holds :=
  holds_open hl H.of H.keeps (fun s e => xl_of s (Bool.and_eq_true_iff.mp e).1) XL.keeps hdef hp hk (fun s e => recFacts_of (Bool.and_eq_true_iff.mp e).2) (by rfl) k1 (by decide +kernel) ⟨rfl, rfl, rfl, rfl, rfl, by decide +kernel⟩ hw call
local macro_rules | `(tactic| o_head $H) => `(tactic| (
  refine headed $H (left_of_boot hl1 (by decide) hl2 (by
      intro w
      delta topFrom
      rewrite [PySem.W.Fast.te14082659384304107361, PySem.W.Fast.te14364793385576792824, PySem.W.Fast.te5923862056798008813, PySem.W.Fast.te8920871248978507458, PySem.W.Fast.te4187177175401517315]
      kernel_rfl)) (by rfl) (by rfl) (by rfl) (by assumption) ?hw ?hc
  (all_goals try clear said)))
open_top hd for PySem.Challenge.rw_nu0243_01
end Mine
open PySem PySem.Spec PySem.W PySem.Calls PyProof.Rows
namespace Mine
-- Base
theorem top_Base : True := by
  w_top off
  trivial
abbrev Prog := PySem.Challenge.rw_nu0243_01.row.prog
theorem fill_it : ∀ (w : World) (h : Heap), (Mine.hd.heap_1 w.params).In h → PySem.Challenge.rw_nu0243_01.row.prog = PySem.Challenge.rw_nu0243_01.row.prog := by
  k_fill
  intros; rfl

theorem hideG {P : Prop} (h : ∀ G : Prop, (P → G) → G) : P := h P id
/-- what stands around a call -/
structure Amb (w : World) (mean : ExcName → Option Value) (mg mb : Str → Option Value) (A₀ : Around) (base h₀ : Heap) (outer : List Env) : Prop where
  B : Below A₀ base outer h₀
  X : (Mine.hd.heap_1 w.params).In h₀
  T : Top Mine.V (looseW Mine.V []) mean mg mb h₀

/-- a call is left: what it made and turned goes back to the caller, and what the call was not handed stands -/
def LeaveF (h₀ : Heap) (L : Addr) (m : Str → Option Value) (g : Heap) (rest : List (Addr × Obj)) (R : Result → Shared → Prop) (v : Value) (s' : Shared) : Prop :=
  ∃ L' m' news', Fr g L' s'.heap m' ∧ News g L' s'.heap news' ∧
    (Fr h₀ L s'.heap m → News h₀ L s'.heap (news' ++ rest) → (∀ p ∈ news', ∀ q ∈ rest, p.1 ≠ q.1) → R (.ok (.ret v)) s')

theorem leaveF {h₀ g : Heap} {L L' : Addr} {m m' : Str → Option Value} {rest news' : List (Addr × Obj)} {R : Result → Shared → Prop} {v : Value} {s' : Shared} (F' : Fr g L' s'.heap m') (N' : News g L' s'.heap news')
    (k : Fr h₀ L s'.heap m → News h₀ L s'.heap (news' ++ rest) → (∀ p ∈ news', ∀ q ∈ rest, p.1 ≠ q.1) → R (.ok (.ret v)) s') : LeaveF h₀ L m g rest R v s' := ⟨L', m', news', F', N', k⟩

section
variable {w : World} {mean : ExcName → Option Value} {mg mb : Str → Option Value} {A₀ A : Around} {s : Shared} {base h₀ : Heap} {outer : List Env} {L : Addr} {m : Str → Option Value} {env : Env} {own rest : List (Addr × Obj)} {R : Result → Shared → Prop}

theorem ground (G : Amb w mean mg mb A₀ base h₀ outer) (F : Fr h₀ L s.heap m) (N : News h₀ L s.heap (own ++ rest)) (hsep : ∀ p ∈ own, ∀ q ∈ rest, p.1 ≠ q.1)
    (hA : A.frames = some (env :: outer)) (hf : env.frame = some L) (hke : env.scope.kind = .function) :
    ∃ g, g = hideAll s.heap (own.map (·.1)) ∧ Fr h₀ L g m ∧ Amb w mean mg mb A base g (env :: outer) ∧ (∀ b o, g.get? b = some o → s.heap.get? b = some o) ∧ (∀ b o, s.heap.get? b = some o → b ∉ own.map (·.1) → g.get? b = some o) ∧
      ∀ v s', LeaveF h₀ L m g rest R v s' → R (.ok (.ret v)) s' := by
  have No : News h₀ L s.heap own := fun p hp => N p (List.mem_append_left _ hp)
  have Nr : News h₀ L s.heap rest := fun p hp => N p (List.mem_append_right _ hp)
  obtain ⟨FG, BG, st, _⟩ := groundX (R := R) G.B F No hA hf hke
  have hr : ∀ q ∈ rest, (hideAll s.heap (own.map (·.1))).get? q.1 = some q.2 := fun q hq => hideAll_get _ (Nr q hq).1 fun hm => by
    obtain ⟨p, hp, e⟩ := List.mem_map.mp hm
    exact hsep p hp q hq e
  refine ⟨_, rfl, FG, ⟨BG, G.X.keeps st, G.T.keeps st⟩, fun b o e => of_hideAll _ e, fun b o e n => hideAll_get _ e n, fun v s' hl => ?_⟩
  obtain ⟨L', m', news', F', N', k⟩ := hl
  obtain ⟨oL, es, ep, hL, hLd, hLk, hLf⟩ := FG.ns
  have hsep' : ∀ p ∈ news', ∀ q ∈ rest, p.1 ≠ q.1 := fun p hp q hq e => by
    have h1 := (N' p hp).2.2
    rw [e, hr q hq] at h1; cases h1
  refine k ⟨⟨oL, es, ep, F'.keep L oL hL, hLd, hLk, hLf⟩, fun b o e => F'.keep b o (st b o e), F.above⟩ (fun p hp => ?_) hsep'
  rcases List.mem_append.mp hp with hp | hp
  · refine ⟨(N' p hp).1, fun q => ?_, ?_⟩
    · have := (N' p hp).2.2; rw [q, hL] at this; cases this
    · cases q : h₀.get? p.1 with
      | none => rfl
      | some o => have := (N' p hp).2.2; rw [st _ _ q] at this; cases this
  · exact ⟨F'.keep _ _ (hr p hp), (Nr p hp).2.1, (Nr p hp).2.2⟩

/-- into a def without cells of its own -/
theorem enterF {name qual : Str} {params : Arguments} {body : List Stmt} {scope : Scope} {dV kV doc pm cdv ct oc : Value} {an od : Option Addr} {osl : Array (Option Value)} {f : Addr} {vals : List Value}
    (G : Amb w mean mg mb A₀ base h₀ outer) (F : Fr h₀ L s.heap m) (N : News h₀ L s.heap (own ++ rest)) (hsep : ∀ p ∈ own, ∀ q ∈ rest, p.1 ≠ q.1)
    (hA : A.frames = some (env :: outer)) (hf : env.frame = some L) (hke : env.scope.kind = .function)
    (ho : (Mine.hd.heap_1 w.params).lookup f = some ⟨oc, od, .func (fnOf name qual params body scope dV kV doc pm an cdv ct), osl⟩) (hcd : codeIn (Mine.hd.heap_1 w.params) cdv qual = true) (hroom : A.depth < recursionLimit)
    (hbind : BindsTo s (fnOf name qual params body scope dV kV doc pm an cdv ct) ⟨vals, []⟩ ((params.args.map (·.arg)).zip vals)) (hloc : ∀ y ∈ (params.args.map (·.arg)).zip vals, scope.names.lookup y.1 = some .local)
    (h : ∀ g L' h₁ tk, Fr h₀ L g m → Fr g L' h₁ (fun y => ((params.args.map (·.arg)).zip vals).reverse.lookup y) → News g L' h₁ own → Amb w mean mg mb A base g (env :: outer) → (∀ b o, s.heap.get? b = some o → b ∉ own.map (·.1) → g.get? b = some o) → (∀ p ∈ own, p.1 < L') →
      wpAny (model Prog w) (A.deeper (envOf qual scope L' f cdv)) (execs body (envOf qual scope L' f cdv))
        (fun fl s' => LeaveF h₀ L m g rest R (match fl with | .ret v => v | _ => .none) s')
        (fun e s' => wpAny (model Prog w) (A.deeper (envOf qual scope L' f cdv)) (leaving (envOf qual scope L' f cdv) e) (fun _ s'' => R (.error e) s'') (fun e' s'' => R (.error e') s'') s')
        { s with heap := h₁, toks := tk })
    (hcell : ∀ x ∈ scope.names, x.2 ≠ .cell) (hco : scope.isCoroutine = false := by rfl) (hgen : scope.isGenerator = false := by rfl) (hk : scope.kind = .function := by rfl) : codeAny (model Prog w) A (.call (.ref f) ⟨vals, []⟩) R s := by
  obtain ⟨g, hg, FG, GG, up, st, lv⟩ := ground (R := R) G F N hsep hA hf hke
  have X := G.X.keeps F.keep
  have No : News h₀ L s.heap own := fun p hp => N p (List.mem_append_left _ hp)
  refine codeAny_call_def (fd := fnOf name qual params body scope dV kV doc pm an cdv ct) (body := body) hroom (X _ _ ho) rfl (G.T.nolimit.keeps F.keep) (codeRec_of X hcd) rfl hbind hcell hloc (fun h₁ hns hk₁ => ?_) hco hgen hk
  refine wpAny_mono (h g s.heap.objs.size h₁ _ FG ⟨hns, fun b o e => hk₁ b o (up b o e), by rw [hg]; exact Nat.le_of_eq (hideAll_size _ _)⟩
    (fun p hp => ⟨hk₁ _ _ (No p hp).1, Nat.ne_of_lt (Heap.lt_size (No p hp).1), by rw [hg]; exact hideAll_none _ (List.mem_map_of_mem hp)⟩) GG st (fun p hp => Heap.lt_size (No p hp).1)) (fun fl s' hl => lv _ _ hl) fun _ _ y => y

/-- into a def that has cells of its own -/
theorem enterC {name qual : Str} {params : Arguments} {body : List Stmt} {scope : Scope} {dV kV doc pm cdv ct oc : Value} {an od : Option Addr} {osl : Array (Option Value)} {f : Addr} {args : Args} {binds : List (Str × Value)}
    (G : Amb w mean mg mb A₀ base h₀ outer) (F : Fr h₀ L s.heap m) (N : News h₀ L s.heap (own ++ rest)) (hsep : ∀ p ∈ own, ∀ q ∈ rest, p.1 ≠ q.1)
    (hA : A.frames = some (env :: outer)) (hf : env.frame = some L) (hke : env.scope.kind = .function)
    (ho : (Mine.hd.heap_1 w.params).lookup f = some ⟨oc, od, .func (fnX name qual params body scope [] dV kV doc pm an cdv ct), osl⟩) (hcd : codeIn (Mine.hd.heap_1 w.params) cdv qual = true) (hroom : A.depth < recursionLimit)
    (hbind : BindsTo s (fnX name qual params body scope [] dV kV doc pm an cdv ct) args binds) (hkind : (binds.all fun y => scope.names.lookup y.1 == some .local || scope.names.lookup y.1 == some .cell) = true)
    (hnd : ((cellsFrom 0 scope.names []).map (·.1)).Nodup)
    (h : ∀ g L' h₁ tk cells, Fr h₀ L g m → Fr g L' h₁ (bindL (envOfC qual scope L' f cdv).kindOf binds fun _ => none) → News g L' h₁ (cells ++ own) →
      CellsAre (bindC (envOfC qual scope L' f cdv).kindOf binds fun _ => none) (cellsFrom (L' + 1) scope.names []) cells → Amb w mean mg mb A base g (env :: outer) → (∀ b o, s.heap.get? b = some o → b ∉ own.map (·.1) → g.get? b = some o) → (∀ p ∈ own, p.1 < L') →
      wpAny (model Prog w) (A.deeper (envOfC qual scope L' f cdv)) (execs body (envOfC qual scope L' f cdv))
        (fun fl s' => LeaveF h₀ L m g rest R (match fl with | .ret v => v | _ => .none) s')
        (fun e s' => wpAny (model Prog w) (A.deeper (envOfC qual scope L' f cdv)) (leaving (envOfC qual scope L' f cdv) e) (fun _ s'' => R (.error e) s'') (fun e' s'' => R (.error e') s'') s')
        { s with heap := h₁, toks := tk })
    (hco : scope.isCoroutine = false := by rfl) (hgen : scope.isGenerator = false := by rfl) (hk : scope.kind = .function := by rfl) : codeAny (model Prog w) A (.call (.ref f) args) R s := by
  obtain ⟨g, hg, FG, GG, up, st, lv⟩ := ground (R := R) G F N hsep hA hf hke
  have X := G.X.keeps F.keep
  have No : News h₀ L s.heap own := fun p hp => N p (List.mem_append_left _ hp)
  refine codeAny_call_function hroom (X _ _ ho) rfl hco hgen rfl (codeRec_of X hcd) (hbind _ _ _ _ ?_)
  refine wpAny_newFunctionEnv_cells hk (kindsX hkind _) fun env' he s' x => ?_
  subst he
  refine ⟨(G.T.nolimit.keeps F.keep).keeps x.toInCall.keep, codeAny_func ?_⟩
  obtain ⟨h₁, tk, rfl, _⟩ := x.done
  have hk₁ := x.toInCall.keep
  obtain ⟨cells, NC, Y⟩ := Cl.news (h₀ := s.heap) (Nat.le_refl _) fun n c hm => ⟨x.cell n c (lookup_of_mem_nodup (cellsFrom_names scope.names 0 (s.heap.objs.size + 1) [] [] rfl ▸ hnd) hm), x.above n c hm⟩
  refine wpAny_mono (h g s.heap.objs.size h₁ tk cells FG ⟨x.toInCall.ns, fun b o e => hk₁ b o (up b o e), by rw [hg]; exact Nat.le_of_eq (hideAll_size _ _)⟩ (fun p hp => ?_) Y GG st (fun p hp => Heap.lt_size (No p hp).1)) (fun fl s' hl => lv _ _ hl) fun _ _ y => y
  rcases List.mem_append.mp hp with hp | hp
  · refine ⟨(NC p hp).1, (NC p hp).2.1, ?_⟩
    cases q : g.get? p.1 with
    | none => rfl
    | some o => have := up _ _ q; rw [(NC p hp).2.2] at this; cases this
  · exact ⟨hk₁ _ _ (No p hp).1, Nat.ne_of_lt (Heap.lt_size (No p hp).1), by rw [hg]; exact hideAll_none _ (List.mem_map_of_mem hp)⟩
end

/-- a call of f, as a triple: it is handed `own` (what it may turn), may look at `imm`, gives back a value and what `own` has become; all else that the caller made stands -/
def Does (w : World) (f : Addr) (args : List Value) (own imm : List (Addr × Obj)) (n : Nat) (Post : Value → List (Addr × Obj) → Prop) : Prop :=
  ∀ (mean : ExcName → Option Value) (mg mb : Str → Option Value) (dp un : Nat) (gd : Option (List Code)) (cn : Str) (cs : Scope) (a : Addr) (ccd : Value) (cl : List (Str × Addr)) (outer : List Env) (A₀ : Around) (base h₀ : Heap) (L : Addr) (m : Str → Option Value)
    (rest : List (Addr × Obj)) (s : Shared) (Q E : Value → Shared → Prop),
    Amb w mean mg mb A₀ base h₀ outer → cs.kind = .function → Fr h₀ L s.heap m → News h₀ L s.heap (own ++ rest) → (∀ p ∈ own, ∀ q ∈ rest, p.1 ≠ q.1) → (∀ p ∈ imm, s.heap.get? p.1 = some p.2 ∧ p.1 ∉ own.map (·.1)) →
    dp + n < recursionLimit → un + 10 * n < cLine →
    (∀ r own' h' tk, Post r own' → Fr h₀ L h' m → News h₀ L h' (own' ++ rest) → (∀ p ∈ own', ∀ q ∈ rest, p.1 ≠ q.1) → Q r { s with heap := h', toks := tk }) →
    wpAny (model Prog w) (ktrTop dp un gd cn cs L a ccd cl outer) (call (.ref f) args) Q E s
-- Rules
theorem top_Rules : True := by
  w_top off
  trivial
section
variable {w : World} {K : Type} [DecidableEq K] {knd : KeyKind Prog w K} {A : Around} {E : Value → Shared → Prop} {s : Shared} {h₀ : Heap} {L d : Addr} {m : Str → Option Value}
  {news : List (Addr × Obj)} {g : Obj → List (Addr × Obj)} {kvs : List (K × Value)} {o : Obj} {k : K} {key v : Value}

theorem dictOfNews (N : News h₀ L s.heap news) (hm : (d, o) ∈ news) (hd : o.IsDictOf knd kvs) : s.heap.DictOf knd d kvs := Heap.dictOf_iff.mpr ⟨o, (N _ hm).1, hd⟩
theorem dictOfBase (F : Fr h₀ L s.heap m) (hm : h₀.get? d = some o) (hd : o.IsDictOf knd kvs) : s.heap.DictOf knd d kvs := Heap.dictOf_iff.mpr ⟨o, F.keep _ _ hm, hd⟩

theorem dItem {value slice : PySem.Expr} {Q : Value → Shared → Prop} (hm : s.heap.DictOf knd d kvs) (hkey : knd.is k key = true) (hv : valueAt kvs k = some v) (h : Q v { s with toks := s.toks + 1 })
    (hs : subscripted slice false (.ref d) key = operate [.ref d, key] (getItem (.ref d) key) := by with_unfolding_all rfl) :
    wpAny (model Prog w) A (subscriptTail value slice (.ref d) key) Q E s :=
  tail_any hm.mapOf.typeIs slot_dict_getitem.lookup (wpAny_getItem_of hkey hm.mapOf hv h) hs

theorem dSet {Q : Unit → Shared → Prop} (F : Fr h₀ L s.heap m) (N : News h₀ L s.heap news) (U : UpdF d o news g) (hd : o.IsDictOf knd kvs) (hkey : knd.is k key = true)
    (h : ∀ h' o', Fr h₀ L h' m → News h₀ L h' (g o') → o'.IsDictOf knd (stored kvs k v) → Q () { s with heap := h', toks := s.toks + 1 })
    (hsz : kvs.length ≤ sizeLine) : wpAny (model Prog w) A (setItem (.ref d) key v) Q E s := by
  obtain ⟨pre, post, rfl, hg, a, b⟩ := U.split
  have hm := N (d, o) (List.mem_append_right _ (.head _))
  refine wpAny_setItem_pairs (hsz := hsz) hkey (Heap.dictOf_iff.mpr ⟨o, hm.1, hd⟩) fun h' hmm hs => ?_
  obtain ⟨o', ho', hd'⟩ := Heap.dictOf_iff.mp hmm
  exact h h' o' (F.change hs hm.2.1 hm.2.2) (hg o' ▸ N.setIn a b hs ho') hd'

theorem dDel {Q : Unit → Shared → Prop} (F : Fr h₀ L s.heap m) (N : News h₀ L s.heap news) (U : UpdF d o news g) (hd : o.IsDictOf knd kvs) (hkey : knd.is k key = true) (hl : (valueAt kvs k).isSome = true)
    (h : ∀ h' o', Fr h₀ L h' m → News h₀ L h' (g o') → o'.IsDictOf knd (without kvs k) → Q () { s with heap := h', toks := s.toks + 1 })
    (hsz : kvs.length ≤ sizeLine) : wpAny (model Prog w) A (delItem (.ref d) key) Q E s := by
  obtain ⟨pre, post, rfl, hg, a, b⟩ := U.split
  have hm := N (d, o) (List.mem_append_right _ (.head _))
  have hD : s.heap.DictOf knd d kvs := Heap.dictOf_iff.mpr ⟨o, hm.1, hd⟩
  unfold delItem
  try with_reducible refine wpAny_holding ?_
  refine wpAny_bind (wpAny_sequenceKey hD.typeIs (by decide) ?_)
  refine wpAny_bind (wpAny_callSpecial?_slot (name := Str.ofString "__delitem__") hD.typeIs PySem.F.slot_dict_delitem
    (call_meetsIn PySem.F.slot_dict_delitem hD.typeIs PySem.F.entry_dict_delitem (PySem.F.args_dict_delitem_2 _ _) (meets_dict_delitem_pairs knd d hkey) ⟨kvs, hD, hsz, hl, fun h' hmm hs => ?_⟩))
  obtain ⟨o', ho', hd'⟩ := Heap.dictOf_iff.mp hmm
  exact wpAny_pure (h h' o' (F.change hs hm.2.1 hm.2.2) (hg o' ▸ N.setIn a b hs ho') hd')

theorem dDefault {dflt : Value} {Q : Value → Shared → Prop} (F : Fr h₀ L s.heap m) (N : News h₀ L s.heap news) (U : UpdF d o news g) (hd : o.IsDictOf knd kvs) (hkey : knd.is k key = true) (lo : (d == sysModules) = false)
    (hargs : argsOk "dict.setdefault" ⟨[.ref d, key, dflt], []⟩)
    (h1 : ∀ v, valueAt kvs k = some v → Q v { s with toks := s.toks + 1 })
    (h2 : valueAt kvs k = none → ∀ h' o', Fr h₀ L h' m → News h₀ L h' (g o') → o'.IsDictOf knd (stored kvs k dflt) → Q dflt { s with heap := h', toks := s.toks + 1 })
    (hsz : kvs.length ≤ sizeLine) : wpAny (model Prog w) A (call (.builtin "dict.setdefault") [.ref d, key, dflt]) Q E s := by
  obtain ⟨pre, post, rfl, hg, a, b⟩ := U.split
  have hm := N (d, o) (List.mem_append_right _ (.head _))
  have hD : s.heap.DictOf knd d kvs := Heap.dictOf_iff.mpr ⟨o, hm.1, hd⟩
  refine call_meetsIn PySem.F.slot_dict_setdefault hD.typeIs PySem.F.entry_dict_setdefault hargs (kt_meets_setdefault knd d hkey lo dflt)
    ⟨kvs, hD, hsz, (fun v' hv' => h1 v' hv'), fun hn h' hmm hs => ?_⟩
  obtain ⟨o', ho', hd'⟩ := Heap.dictOf_iff.mp hmm
  exact h2 hn h' o' (F.change hs hm.2.1 hm.2.2) (hg o' ▸ N.setIn a b hs ho') hd'

theorem dIn {Q : Value → Shared → Prop} (hm : s.heap.DictOf knd d kvs) (hkey : knd.is k key = true) (lo : (d == sysModules) = false) (h : Q (.bool (valueAt kvs k).isSome) { s with toks := s.toks + 1 }) :
    wpAny (model Prog w) A (compareOp .In key (.ref d)) Q E s := wpAny_in_of hkey lo hm.mapOf h
theorem dNotIn {Q : Value → Shared → Prop} (hm : s.heap.DictOf knd d kvs) (hkey : knd.is k key = true) (lo : (d == sysModules) = false) (h : Q (.bool (!(valueAt kvs k).isSome)) { s with toks := s.toks + 1 }) :
    wpAny (model Prog w) A (compareOp .NotIn key (.ref d)) Q E s := wpAny_notIn_of hkey lo hm.mapOf h
end

local macro_rules | `(tactic| walk_at "subscriptTail") => `(tactic| (k_here; k_dflt (refine' dItem (dictOfNews (by k_asm) (by k_mem) (by assumption)) (strKind_is _ _ _ _) (by rfl) ?_; k_whole)))
local macro_rules | `(tactic| walk_at "setItem ref str") => `(tactic| (k_here; k_dflt (refine' dSet (by k_asm) (by k_asm) (by k_updF) (by assumption) (strKind_is _ _ _ _) ?_ (by rw [sizeLine_eq]; decide); k_whole); intro h' o' F' N' D'; (try dsimp only at N'); (try k_sweep)))
abbrev tup (vs : List Value) : Obj := { cls := .type "tuple", data := .seq vs.toArray 0 }
local macro_rules | `(tactic| walk_at "MINE in") => `(tactic| (
  refine wpAny_call ?_
  k_dflt (refine' enterF (by assumption) (by assumption) (by assumption) (by assumption) (by rfl) (by rfl) (by assumption) (by k_is) (by k_is) (by (show _ < recursionLimit); dsimp only [ktrTop]; omega) (by exact BindsTo.of_eq rfl) (by exact locs rfl) ?_ (by decide) (by rfl) (by rfl) (by rfl); k_whole)
  simp only [List.map_cons, List.map_nil, List.zip_cons_cons, List.zip_nil_right, List.zip_nil_left, List.reverse_cons, List.reverse_nil, List.nil_append, List.cons_append]))
-- Loops
theorem top_Loops : True := by
  w_top off
  trivial
theorem fmc {α : Type} {P : α → Prop} {a : α} {l : List α} (h : P a) (t : ∀ x ∈ l, P x) : ∀ x ∈ a :: l, P x := List.forall_mem_cons.mpr ⟨h, t⟩
theorem fma {α : Type} {P : α → Prop} {l r : List α} (h : ∀ x ∈ l, P x) (t : ∀ x ∈ r, P x) : ∀ x ∈ l ++ r, P x := List.forall_mem_append.mpr ⟨h, t⟩
/-- a tree at which the walk is to halt -/
def Halt (P : Prop) : Prop := P
theorem halt_of {P : Prop} (h : Halt P) : P := h
theorem halt_mk {P : Prop} (h : P) : Halt P := h

theorem kstB_self {m : Str → Option Value} {ps : List (Str × Value)} (h : ∀ p ∈ ps, m p.1 = some p.2) : kstB m ps = m := funext fun _ => kstB_eq h fun _ => rfl

def TurnNext {σ : Type} (h₀ : Heap) (L : Addr) (led : σ → List (Addr × Obj)) (ps : σ → List (Str × Value)) (J : σ → Prop) (I : Addr) (oI : Obj) (s₁ s₂ : Shared) : Prop :=
  ∃ c h' tk m', s₂ = { s₁ with heap := h', toks := tk } ∧ Fr h₀ L h' m' ∧ News h₀ L h' ((I, oI) :: led c) ∧ (∀ p ∈ led c, p.1 ≠ I) ∧ (∀ p ∈ ps c, m' p.1 = some p.2) ∧ J c
def TurnEnd {σ : Type} (h₀ : Heap) (L : Addr) (led : σ → List (Addr × Obj)) (ps : σ → List (Str × Value)) (J : σ → Prop) (I : Addr) (oI : Obj) (s₁ : Shared) (Q : Flow → Shared → Prop) (f : Flow) (s₂ : Shared) : Prop := match f with
  | .ret v => Q (.ret v) s₂
  | .brk => Q .next s₂
  | _ => TurnNext h₀ L led ps J I oI s₁ s₂
theorem turnNext {σ : Type} {h₀ : Heap} {L : Addr} {led : σ → List (Addr × Obj)} {ps : σ → List (Str × Value)} {J : σ → Prop} {I : Addr} {oI : Obj} {s₁ : Shared} {h' : Heap} {tk : Nat} {m' : Str → Option Value} (c : σ)
    (F : Fr h₀ L h' m') (N : News h₀ L h' ((I, oI) :: led c)) (hI : ∀ p ∈ led c, p.1 ≠ I) (hm : ∀ p ∈ ps c, m' p.1 = some p.2) (hJ : J c) : TurnNext h₀ L led ps J I oI s₁ { s₁ with heap := h', toks := tk } :=
  ⟨c, h', tk, m', rfl, F, N, hI, hm, hJ⟩

def AllNe (I : Nat) : List (Addr × Obj) → Prop
  | [] => True
  | p :: r => @Ne Nat p.1 I ∧ AllNe I r
theorem allNe_of {I : Addr} : ∀ {l : List (Addr × Obj)}, (∀ p ∈ l, p.1 ≠ I) → AllNe I l
  | [], _ => trivial
  | p :: _, h => ⟨h p (.head _), allNe_of fun q hq => h q (.tail _ hq)⟩
theorem of_allNe {I : Addr} : ∀ {l : List (Addr × Obj)}, AllNe I l → ∀ p ∈ l, p.1 ≠ I
  | [], _, _, hp => (nomatch hp)
  | q :: r, h, p, hp => by
    rcases List.mem_cons.mp hp with rfl | hp
    · exact h.1
    · exact of_allNe h.2 p hp
local macro_rules | `(tactic| size_fits) => `(tactic| first | ((try simp only [List.size_toArray, List.length_append, List.length_cons, List.length_nil]); (rw [sizeLine_eq]); omega) | fail "mine")

section
variable {w : World} {A : Around} {E : Value → Shared → Prop} {s : Shared} {env : Env} {h₀ : Heap} {x : Str} {body : List Stmt} {Q : Flow → Shared → Prop} {σ : Type} {m₀ : Str → Option Value}

theorem loopW {I : Addr} {fp : List Addr} {n : Nat} {P : Nat → Value → Prop} {St : Nat → Heap → Prop} (led : σ → List (Addr × Obj)) (ps : σ → List (Str × Value)) (J : Nat → σ → Prop) (c₀ : σ)
    (W : Walks Prog w A I fp [I] n P St) (hLf : env.locals ∉ fp) (hI : h₀.get? I = none) (hI2 : ∀ p ∈ led c₀, p.1 ≠ I) (hst : St 0 s.heap) (F : Fr h₀ env.locals s.heap m₀) (N : News h₀ env.locals s.heap (led c₀))
    (hps : ∀ p ∈ ps c₀, m₀ p.1 = some p.2) (hJ : J 0 c₀) (hsrc : ∀ b ∈ fp, b ≠ I → (∃ o, h₀.get? b = some o) ∨ ∃ o, ∀ i c, J i c → (b, o) ∈ led c) (live : ∀ i h, St i h → ∃ oI, h.get? I = some oI)
    (turn : ∀ i v c (u : Str → Option Value) h tk oI, i < n → P i v → J i c → (∀ p ∈ led c, p.1 ≠ I) → Fr h₀ env.locals h (fun y => if y = x then some v else kstB u (ps c) y) → News h₀ env.locals h ((I, oI) :: led c) →
      wpAny (model Prog w) A (execs body env) (TurnEnd h₀ env.locals led ps (J (i + 1)) I oI { s with heap := h, toks := tk } Q) E { s with heap := h, toks := tk })
    (done : ∀ c (u : Str → Option Value) h tk, J n c → Fr h₀ env.locals h (kstB u (ps c)) → News h₀ env.locals h (led c) → Q .next { s with heap := h, toks := tk }) :
    LoopAtV Prog w A h₀ env x body Q E (.ref I) s := by
  have hIf : I ∈ fp := W.sub I (.head _)
  refine ⟨I, fp, [I], n, P, St, m₀, led c₀, (fun i m nx => ∃ c, nx = led c ∧ (∀ p ∈ ps c, m p.1 = some p.2) ∧ J i c), rfl, W, hLf, (fun b hb => by rw [List.mem_singleton.mp hb]; exact hI), (fun p hp hm => hI2 p hp (List.mem_singleton.mp hm)), hst, F, N, ⟨c₀, rfl, hps, hJ⟩, ?_, ?_⟩
  · rintro i v m₁ nx s₁ own ⟨hh', tk', rfl⟩ hin hP ⟨c, rfl, hm, hJc⟩ hoff hown hget hall hst₁ F₁ N₁
    obtain ⟨oI, hoI⟩ := live _ _ hst₁
    have hmem : (I, oI) ∈ own := hall I hIf hI oI hoI
    have hoff' : ∀ p ∈ led c, p.1 ≠ I := fun p hp e => hoff p hp (by rw [e]; exact .head _)
    have N₂ : News h₀ env.locals hh' ((I, oI) :: led c) := fun p hp => by
      rcases List.mem_cons.mp hp with rfl | hp
      · exact N₁ _ (List.mem_append_left _ hmem)
      · exact N₁ _ (List.mem_append_right _ hp)
    have F₂ : Fr h₀ env.locals hh' (fun y => if y = x then some v else kstB m₁ (ps c) y) := by rw [kstB_self hm]; exact F₁
    refine wpAny_mono (turn i v c m₁ hh' tk' oI hin hP hJc hoff' F₂ N₂) (fun f s₂ p => ?_) fun _ _ e => e
    have fin : TurnNext h₀ env.locals led ps (J (i + 1)) I oI { s with heap := hh', toks := tk' } s₂ → LoopStepU h₀ env.locals [I] own (fun m nx => ∃ c, nx = led c ∧ (∀ p ∈ ps c, m p.1 = some p.2) ∧ J (i + 1) c) { s with heap := hh', toks := tk' } .next s₂ := by
      rintro ⟨c', h', tk, m', e, F', N', hI', hm', hJ'⟩
      refine ⟨rfl, h', tk, m', led c', e, F', fun p hp => ?_, fun p hp hq => hI' p hp (List.mem_singleton.mp hq), c', rfl, hm', hJ'⟩
      rcases List.mem_append.mp hp with hp | hp
      · have hp1 := hown p hp
        have hpg := hget p hp
        by_cases e1 : p.1 = I
        · have : p = (I, oI) := Prod.ext e1 (by rw [e1, hoI] at hpg; exact (Option.some.inj hpg).symm)
          rw [this]; exact N' _ (.head _)
        · rcases hsrc p.1 hp1 e1 with ⟨o, ho⟩ | ⟨o, ho⟩
          · have := (N₁ p (List.mem_append_left _ hp)).2.2
            rw [ho] at this; cases this
          · have h1 := (N₁ _ (List.mem_append_right _ (ho i c hJc))).1
            have : p = (p.1, o) := Prod.ext rfl (by rw [h1] at hpg; exact (Option.some.inj hpg).symm)
            rw [this]; exact N' _ (.tail _ (ho _ c' hJ'))
      · exact N' _ (.tail _ hp)
    cases f with
    | ret v => exact .ret p
    | brk => exact .brk p
    | next => exact .next (fin p)
    | cont => exact .cont (fin p)
  · rintro h' tk m' nx F' N' _ ⟨c, rfl, hm, hJc⟩
    exact done c m' h' tk hJc (by rw [kstB_self hm]; exact F') N'

theorem loop_list {l : Addr} {vs : List Value} (led : σ → List (Addr × Obj)) (ps : σ → List (Str × Value)) (J : Nat → σ → Prop) (c₀ : σ)
    (hh : A.handled = none) (hl : h₀.IsList l vs.toArray ∨ ∃ o, o.cls = .type "list" ∧ (∃ n, o.data = .seq vs.toArray n) ∧ ∀ i c, J i c → (l, o) ∈ led c) (F : Fr h₀ env.locals s.heap m₀) (N : News h₀ env.locals s.heap (led c₀))
    (hps : ∀ p ∈ ps c₀, m₀ p.1 = some p.2) (hJ : J 0 c₀)
    (turn : ∀ i v c (u : Str → Option Value) h tk I oI, vs[i]? = some v → J i c → (∀ p ∈ led c, p.1 ≠ I) → Fr h₀ env.locals h (fun y => if y = x then some v else kstB u (ps c) y) → News h₀ env.locals h ((I, oI) :: led c) →
      wpAny (model Prog w) A (execs body env) (TurnEnd h₀ env.locals led ps (J (i + 1)) I oI { s with heap := h, toks := tk } Q) E { s with heap := h, toks := tk })
    (done : ∀ c (u : Str → Option Value) h tk, J vs.length c → Fr h₀ env.locals h (kstB u (ps c)) → News h₀ env.locals h (led c) → Q .next { s with heap := h, toks := tk }) :
    wpAny (model Prog w) A (pyIter (.ref l)) (fun it s₂ => LoopAtV Prog w A h₀ env x body Q E it s₂) E s := by
  have hls : s.heap.IsList l vs.toArray := by
    rcases hl with hl | ⟨o, h1, h2, h3⟩
    · exact hl.at fun o e => F.keep l o e
    · exact ⟨o, (N _ (h3 0 c₀ hJ)).1, h1, h2⟩
  obtain ⟨ol, hol, _⟩ := id hls
  have hlt : l < s.heap.objs.size := Heap.lt_size hol
  have hne : l ≠ s.heap.objs.size := Nat.ne_of_lt hlt
  have hlL : env.locals ≠ l := by
    rcases hl with ⟨o, ho, _⟩ | ⟨o, _, _, h3⟩
    · exact fun e => Nat.lt_irrefl _ (Nat.lt_of_lt_of_le (Heap.lt_size ho) (e ▸ F.above))
    · exact fun e => (N _ (h3 0 c₀ hJ)).2.1 e.symm
  refine wpAny_pyIter_list hls ?_
  have W := Walks.list (prog := Prog) (w := w) hh s.heap.objs.size l hne vs.toArray
  rw [List.size_toArray] at W
  refine loopW led ps J c₀ W ?_ (next_is_new F) (fun p hp => Nat.ne_of_lt (Heap.lt_size (N p hp).1)) ⟨⟨_, Heap.get?_push_size _ rfl, rfl, rfl⟩, hls.at fun o e => Heap.get?_push_of_some _ e⟩ (F.push _) (fun p hp => ⟨Heap.get?_push_of_some _ (N p hp).1, (N p hp).2⟩) hps hJ ?_ ?_ ?_ ?_
  · intro hm
    rcases List.mem_cons.mp hm with e | hm
    · exact absurd F.ns.lt (e ▸ Nat.lt_irrefl _)
    · exact hlL (List.mem_singleton.mp hm)
  · intro b hb hbI
    rcases List.mem_cons.mp hb with e | hb
    · exact absurd e hbI
    · rw [List.mem_singleton.mp hb]
      rcases hl with ⟨o, ho, _⟩ | ⟨o, _, _, h3⟩
      · exact .inl ⟨o, ho⟩
      · exact .inr ⟨o, h3⟩
  · rintro i h ⟨⟨o, ho, _⟩, _⟩
    exact ⟨o, ho⟩
  · intro i v c u h tk oI hi hP hJc hoff F₁ N₁
    exact turn i v c u h tk _ oI (by simpa using hP) hJc hoff F₁ N₁
  · exact done

theorem loop_tuple {l : Addr} {vs : List Value} (led : σ → List (Addr × Obj)) (ps : σ → List (Str × Value)) (J : Nat → σ → Prop) (c₀ : σ)
    (hh : A.handled = none) (hl : h₀.IsTuple l vs.toArray ∨ ∃ o, o.cls = .type "tuple" ∧ (∃ n, o.data = .seq vs.toArray n) ∧ ∀ i c, J i c → (l, o) ∈ led c) (F : Fr h₀ env.locals s.heap m₀) (N : News h₀ env.locals s.heap (led c₀))
    (hps : ∀ p ∈ ps c₀, m₀ p.1 = some p.2) (hJ : J 0 c₀)
    (turn : ∀ i v c (u : Str → Option Value) h tk I oI, vs[i]? = some v → J i c → (∀ p ∈ led c, p.1 ≠ I) → Fr h₀ env.locals h (fun y => if y = x then some v else kstB u (ps c) y) → News h₀ env.locals h ((I, oI) :: led c) →
      wpAny (model Prog w) A (execs body env) (TurnEnd h₀ env.locals led ps (J (i + 1)) I oI { s with heap := h, toks := tk } Q) E { s with heap := h, toks := tk })
    (done : ∀ c (u : Str → Option Value) h tk, J vs.length c → Fr h₀ env.locals h (kstB u (ps c)) → News h₀ env.locals h (led c) → Q .next { s with heap := h, toks := tk }) :
    wpAny (model Prog w) A (pyIter (.ref l)) (fun it s₂ => LoopAtV Prog w A h₀ env x body Q E it s₂) E s := by
  have hls : s.heap.IsTuple l vs.toArray := by
    rcases hl with ⟨o, ho, r⟩ | ⟨o, h1, h2, h3⟩
    · exact ⟨o, F.keep l o ho, r⟩
    · exact ⟨o, (N _ (h3 0 c₀ hJ)).1, h1, h2⟩
  obtain ⟨ol, hol, hcl, hdl⟩ := id hls
  have hlt : l < s.heap.objs.size := Heap.lt_size hol
  have hne : l ≠ s.heap.objs.size := Nat.ne_of_lt hlt
  have hlL : env.locals ≠ l := by
    rcases hl with ⟨o, ho, _⟩ | ⟨o, _, _, h3⟩
    · exact fun e => Nat.lt_irrefl _ (Nat.lt_of_lt_of_le (Heap.lt_size ho) (e ▸ F.above))
    · exact fun e => (N _ (h3 0 c₀ hJ)).2.1 e.symm
  refine wpAny_pyIter_tuple hls ?_
  have W := Walks.tuple (prog := Prog) (w := w) hh s.heap.objs.size l hne vs.toArray
  rw [List.size_toArray] at W
  refine loopW led ps J c₀ W ?_ (next_is_new F) (fun p hp => Nat.ne_of_lt (Heap.lt_size (N p hp).1)) ⟨⟨_, Heap.get?_push_size _ rfl, rfl, rfl⟩, ⟨ol, Heap.get?_push_of_some _ hol, hcl, hdl⟩⟩ (F.push _) (fun p hp => ⟨Heap.get?_push_of_some _ (N p hp).1, (N p hp).2⟩) hps hJ ?_ ?_ ?_ ?_
  · intro hm
    rcases List.mem_cons.mp hm with e | hm
    · exact absurd F.ns.lt (e ▸ Nat.lt_irrefl _)
    · exact hlL (List.mem_singleton.mp hm)
  · intro b hb hbI
    rcases List.mem_cons.mp hb with e | hb
    · exact absurd e hbI
    · rw [List.mem_singleton.mp hb]
      rcases hl with ⟨o, ho, _⟩ | ⟨o, _, _, h3⟩
      · exact .inl ⟨o, ho⟩
      · exact .inr ⟨o, h3⟩
  · rintro i h ⟨⟨o, ho, _⟩, _⟩
    exact ⟨o, ho⟩
  · intro i v c u h tk oI hi hP hJc hoff F₁ N₁
    exact turn i v c u h tk _ oI (by simpa using hP) hJc hoff F₁ N₁
  · exact done

theorem loop_range {r : Addr} {a b : Int} {t₀ u₀ v₀ : Tok} {n : Nat} (led : σ → List (Addr × Obj)) (ps : σ → List (Str × Value)) (J : Nat → σ → Prop) (c₀ : σ)
    (hh : A.handled = none) (hr : IsRange s.heap r a b 1 t₀ u₀ v₀) (hsmall : Builtin.Range.small a b 1 = true) (hn : Builtin.Range.rangeSize a b 1 = (n : Int)) (F : Fr h₀ env.locals s.heap m₀) (N : News h₀ env.locals s.heap (led c₀))
    (hps : ∀ p ∈ ps c₀, m₀ p.1 = some p.2) (hJ : J 0 c₀)
    (turn : ∀ (i : Nat) t c (u : Str → Option Value) h tk I oI, i < n → J i c → (∀ p ∈ led c, p.1 ≠ I) → Fr h₀ env.locals h (fun y => if y = x then some (.int (a + (i : Int)) t) else kstB u (ps c) y) → News h₀ env.locals h ((I, oI) :: led c) →
      wpAny (model Prog w) A (execs body env) (TurnEnd h₀ env.locals led ps (J (i + 1)) I oI { s with heap := h, toks := tk } Q) E { s with heap := h, toks := tk })
    (done : ∀ c (u : Str → Option Value) h tk, J n c → Fr h₀ env.locals h (kstB u (ps c)) → News h₀ env.locals h (led c) → Q .next { s with heap := h, toks := tk }) :
    wpAny (model Prog w) A (pyIter (.ref r)) (fun it s₂ => LoopAtV Prog w A h₀ env x body Q E it s₂) E s := by
  refine wpAny_pyIter_range hr hsmall ?_
  have W := Walks.range (prog := Prog) (w := w) hh s.heap.objs.size a 1 n
  refine loopW led ps J c₀ W ?_ (next_is_new F) (fun p hp => Nat.ne_of_lt (Heap.lt_size (N p hp).1)) (by show IsRangeIter _ _ _ _ _; rw [hn]; simpa using Heap.get?_push_size _ rfl) (F.push _) (fun p hp => ⟨Heap.get?_push_of_some _ (N p hp).1, (N p hp).2⟩) hps hJ ?_ ?_ ?_ ?_
  · intro hm
    exact absurd F.ns.lt ((List.mem_singleton.mp hm) ▸ Nat.lt_irrefl _)
  · intro b hb hbI
    exact absurd (List.mem_singleton.mp hb) hbI
  · intro i h hst
    exact ⟨_, hst⟩
  · rintro i v c u h tk oI hi ⟨t, rfl⟩ hJc hoff F₁ N₁
    have e1 : a + (i : Int) * 1 = a + (i : Int) := by omega
    rw [e1] at F₁
    exact turn i t c u h tk _ oI hi hJc hoff F₁ N₁
  · exact done

def WTurnNext {σ : Type} (h₀ : Heap) (L : Addr) (led : σ → List (Addr × Obj)) (ps : σ → List (Str × Value)) (J : σ → Prop) (μ : σ → Nat) (c₁ : σ) (s s₂ : Shared) : Prop :=
  ∃ c h' tk m', s₂ = { s with heap := h', toks := tk } ∧ Fr h₀ L h' m' ∧ News h₀ L h' (led c) ∧ (∀ p ∈ ps c, m' p.1 = some p.2) ∧ J c ∧ μ c < μ c₁
def WTurnEnd {σ : Type} (h₀ : Heap) (L : Addr) (led : σ → List (Addr × Obj)) (ps : σ → List (Str × Value)) (J : σ → Prop) (μ : σ → Nat) (c₁ : σ) (s : Shared) (Q : Flow → Shared → Prop) (f : Flow) (s₂ : Shared) : Prop := match f with
  | .ret v => Q (.ret v) s₂
  | .brk => Q .next s₂
  | _ => WTurnNext h₀ L led ps J μ c₁ s s₂
theorem wturnNext {σ : Type} {h₀ : Heap} {L : Addr} {led : σ → List (Addr × Obj)} {ps : σ → List (Str × Value)} {J : σ → Prop} {μ : σ → Nat} {c₁ : σ} {s : Shared} {h' : Heap} {tk : Nat} {m' : Str → Option Value} (c : σ)
    (F : Fr h₀ L h' m') (N : News h₀ L h' (led c)) (hm : ∀ p ∈ ps c, m' p.1 = some p.2) (hJ : J c) (hμ : μ c < μ c₁) : WTurnNext h₀ L led ps J μ c₁ s { s with heap := h', toks := tk } :=
  ⟨c, h', tk, m', rfl, F, N, hm, hJ, hμ⟩

theorem loop_while {L : Addr} {test : Expr} {pos : Pos} (led : σ → List (Addr × Obj)) (ps : σ → List (Str × Value)) (J : σ → Prop) (μ : σ → Nat) (c₀ : σ)
    (F : Fr h₀ L s.heap m₀) (N : News h₀ L s.heap (led c₀)) (hps : ∀ p ∈ ps c₀, m₀ p.1 = some p.2) (hJ : J c₀)
    (turn : ∀ c (u : Str → Option Value) h tk, J c → Fr h₀ L h (kstB u (ps c)) → News h₀ L h (led c) → ∀ (Qt : Flow → Shared → Prop), (∀ f s₂, WTurnEnd h₀ L led ps J μ c s Q f s₂ → Qt f s₂) →
      wpAny (model Prog w) A (isTrue test env (eval test env)) (fun b s₂ =>
        if b = true then wpAny (model Prog w) A (execs body env) Qt E s₂ else Q .next s₂) E { s with heap := h, toks := tk })
    (hE : PassesOwn (model Prog w) A env E := by passes_own) :
    wpAny (model Prog w) A (exec (.While test body [] pos) env) Q E s := by
  refine While_inv2 (fun n m nx => ∃ c : σ, nx = led c ∧ μ c = n ∧ (∀ p ∈ ps c, m p.1 = some p.2) ∧ J c) F N ⟨c₀, rfl, rfl, hps, hJ⟩ ?_ hE
  rintro n m₁ nx h tk F₁ N₁ ⟨c, hnx, hsz, hm, hJc⟩
  rw [hnx] at N₁
  rw [← hsz]
  refine wpAny_mono (turn c m₁ h tk hJc (by rw [kstB_self hm]; exact F₁) N₁ _ fun _ _ x => x) (fun b s₂ p => ?_) fun _ _ x => x
  cases b with
  | false => simpa using p
  | true =>
    simp only [if_true] at p ⊢
    refine wpAny_mono p (fun f s₃ q => ?_) fun _ _ x => x
    cases f with
    | ret v => exact q
    | brk => exact q
    | next =>
      obtain ⟨c', h', tk', m', rfl, F', N', hm9, hJ9, hμ9⟩ := q
      exact ⟨h', tk', m', led c', μ c', rfl, F', N', hμ9, c', rfl, rfl, hm9, hJ9⟩
    | cont =>
      obtain ⟨c', h', tk', m', rfl, F', N', hm9, hJ9, hμ9⟩ := q
      exact ⟨h', tk', m', led c', μ c', rfl, F', N', hμ9, c', rfl, rfl, hm9, hJ9⟩
end

local macro_rules | `(tactic| walk_at "exec For Name Name cons nil") => `(tactic| refine halt_of ?_)
local macro_rules | `(tactic| walk_at "exec For Name Call cons nil") => `(tactic| refine halt_of ?_)
local macro_rules | `(tactic| walk_at "exec For Name Attribute cons nil") => `(tactic| refine halt_of ?_)
local macro_rules | `(tactic| walk_at "exec For Name IfExp cons nil") => `(tactic| refine halt_of ?_)
local macro_rules | `(tactic| walk_at "exec For Name Subscript cons nil") => `(tactic| refine halt_of ?_)
local macro_rules | `(tactic| walk_at "exec For Tuple Call cons nil") => `(tactic| refine halt_of ?_)
local macro_rules | `(tactic| walk_at "exec While Compare cons nil") => `(tactic| refine halt_of ?_)
local macro_rules | `(tactic| walk_at "exec While Name cons nil") => `(tactic| refine halt_of ?_)
theorem named {α : Type} {Q Qf : α → Shared → Prop} {v : α} {s : Shared} (h : ∀ v s, Q v s → Qf v s) (q : Q v s) : Qf v s := h _ _ q
local macro_rules | `(tactic| walk_at "MINE out") => `(tactic| repeat ((refine named (by with_reducible assumption) ?_); (try dsimp only [TurnEnd, WTurnEnd])))
local macro_rules | `(tactic| walk_at "MINE go") => `(tactic| ((repeat' (first | (k_unfold; (try dsimp only)) | walk1 | (dsimp only; walk1) | (leave1; (try dsimp only)) | fail "no step")); all_goals (walk_at "MINE out")))
local macro_rules | `(tactic| walk_at "pyIter ref") => `(tactic| ((with_reducible show wpAny _ _ (pyIter (Value.ref _)) (fun it s₂ => LoopAtV _ _ _ _ _ _ _ _ _ it s₂) _ _); refine halt_of ?_))
local macro_rules | `(tactic| walk_at "MINE for") => `(tactic| (refine halt_mk ?_; (rename Fr _ _ _ _ => lF'); (with_unfolding_all refine' For_invVF lF' ?k1 ?k2 ?_; (case k1 => exact rfl); (case k2 => exact rfl); k_whole)))
local macro_rules | `(tactic| walk_at "call type:range") => `(tactic| (k_here; (rename Fr _ _ _ _ => lF'); (rename News _ _ _ _ => lN'); k_dflt (first | refine range1_rows lF' lN' ?_ | refine range2_rows lF' lN' ?_); intro h' tk' t' u' v' R' F' N' up'; (try k_sweep)))
local macro_rules | `(tactic| walk_at "MINE sub") => `(tactic| kst_inAny)
local macro_rules | `(tactic| walk_at "MINE isT") => `(tactic| first | exact News.isTup (by k_asm) (by k_mem) | exact Fr.tup (by assumption) (by assumption))
local macro_rules | `(tactic| walk_at "MINE isL") => `(tactic| first | exact News.isList (by k_asm) (by k_mem) | exact Fr.lst (by assumption) (by assumption))
local macro_rules | `(tactic| walk_at "call builtin:len") => `(tactic| (k_here; (with_reducible show wpAny _ _ (call (Value.builtin "len") [Value.ref _]) _ _ _); k_dflt (first | refine len_tuple (by walk_at "MINE isT") (by simp only [List.size_toArray]; omega) ?_ | refine len_list (by walk_at "MINE isL") (by simp only [List.size_toArray]; omega) ?_); (try simp only [List.size_toArray])))
local macro_rules | `(tactic| walk_at "ite") => `(tactic| (k_here; first | refine ite_pos (by (try simp only [decide_eq_true_eq, beq_iff_eq, bne_iff_ne]); omega) ?_ | refine ite_neg (by (try simp only [decide_eq_true_eq, beq_iff_eq, bne_iff_ne]); omega) ?_))
-- a conjunct of a fact, an order or a parting by few steps: cheaper than the closing arithmetic
theorem cj1 {X b : Prop} (h : X ∧ b) : X := h.1
theorem cj2 {X a b : Prop} (h : a ∧ X ∧ b) : X := h.2.1
theorem cj3 {X a a₂ b : Prop} (h : a ∧ a₂ ∧ X ∧ b) : X := h.2.2.1
theorem cj4 {X a a₂ a₃ b : Prop} (h : a ∧ a₂ ∧ a₃ ∧ X ∧ b) : X := h.2.2.2.1
theorem cj5 {X a a₂ a₃ a₄ b : Prop} (h : a ∧ a₂ ∧ a₃ ∧ a₄ ∧ X ∧ b) : X := h.2.2.2.2.1
theorem cj6 {X a a₂ a₃ a₄ a₅ b : Prop} (h : a ∧ a₂ ∧ a₃ ∧ a₄ ∧ a₅ ∧ X ∧ b) : X := h.2.2.2.2.2.1
theorem cj7 {X a a₂ a₃ a₄ a₅ a₆ b : Prop} (h : a ∧ a₂ ∧ a₃ ∧ a₄ ∧ a₅ ∧ a₆ ∧ X ∧ b) : X := h.2.2.2.2.2.2.1
theorem cj8 {X a a₂ a₃ a₄ a₅ a₆ a₇ b : Prop} (h : a ∧ a₂ ∧ a₃ ∧ a₄ ∧ a₅ ∧ a₆ ∧ a₇ ∧ X ∧ b) : X := h.2.2.2.2.2.2.2.1
theorem cj9 {X a a₂ a₃ a₄ a₅ a₆ a₇ a₈ b : Prop} (h : a ∧ a₂ ∧ a₃ ∧ a₄ ∧ a₅ ∧ a₆ ∧ a₇ ∧ a₈ ∧ X ∧ b) : X := h.2.2.2.2.2.2.2.2.1
theorem cjA {X a a₂ a₃ a₄ a₅ a₆ a₇ a₈ a₉ b : Prop} (h : a ∧ a₂ ∧ a₃ ∧ a₄ ∧ a₅ ∧ a₆ ∧ a₇ ∧ a₈ ∧ a₉ ∧ X ∧ b) : X := h.2.2.2.2.2.2.2.2.2.1
theorem ce2 {X a : Prop} (h : a ∧ X) : X := h.2
theorem ce3 {X a a₂ : Prop} (h : a ∧ a₂ ∧ X) : X := h.2.2
theorem ce4 {X a a₂ a₃ : Prop} (h : a ∧ a₂ ∧ a₃ ∧ X) : X := h.2.2.2
theorem ce5 {X a a₂ a₃ a₄ : Prop} (h : a ∧ a₂ ∧ a₃ ∧ a₄ ∧ X) : X := h.2.2.2.2
theorem ce6 {X a a₂ a₃ a₄ a₅ : Prop} (h : a ∧ a₂ ∧ a₃ ∧ a₄ ∧ a₅ ∧ X) : X := h.2.2.2.2.2
theorem ce7 {X a a₂ a₃ a₄ a₅ a₆ : Prop} (h : a ∧ a₂ ∧ a₃ ∧ a₄ ∧ a₅ ∧ a₆ ∧ X) : X := h.2.2.2.2.2.2
theorem ce8 {X a a₂ a₃ a₄ a₅ a₆ a₇ : Prop} (h : a ∧ a₂ ∧ a₃ ∧ a₄ ∧ a₅ ∧ a₆ ∧ a₇ ∧ X) : X := h.2.2.2.2.2.2.2
theorem ce9 {X a a₂ a₃ a₄ a₅ a₆ a₇ a₈ : Prop} (h : a ∧ a₂ ∧ a₃ ∧ a₄ ∧ a₅ ∧ a₆ ∧ a₇ ∧ a₈ ∧ X) : X := h.2.2.2.2.2.2.2.2
local macro_rules | `(tactic| k_lt $h) => `(tactic| (replace $h := allLt_of $h; dsimp only [AllLt] at $h:ident))
local macro_rules | `(tactic| walk_at "MINE lt") => `(tactic| first | with_reducible assumption | (refine Nat.lt_trans ?_ (by with_reducible assumption); walk_at "MINE lt"))
local macro_rules | `(tactic| walk_at "MINE cj") => `(tactic| with_reducible first | assumption | exact cj1 (by assumption) | exact cj2 (by assumption) | exact cj3 (by assumption) | exact cj4 (by assumption) | exact cj5 (by assumption) | exact cj6 (by assumption) | exact cj7 (by assumption) | exact cj8 (by assumption) | exact cj9 (by assumption) | exact cjA (by assumption) | exact ce2 (by assumption) | exact ce3 (by assumption) | exact ce4 (by assumption) | exact ce5 (by assumption) | exact ce6 (by assumption) | exact ce7 (by assumption) | exact ce8 (by assumption) | exact ce9 (by assumption))
theorem ne_lt {a b : Nat} (h : @LT.lt Nat _ a b) : @Ne Nat a b := Nat.ne_of_lt h
theorem ne_gt {a b : Nat} (h : @LT.lt Nat _ b a) : @Ne Nat a b := Nat.ne_of_gt h
theorem ne_sy {a b : Nat} (h : @Ne Nat b a) : @Ne Nat a b := Ne.symm h
local macro_rules | `(tactic| k_ne) => `(tactic| (refine neN ?_; (try dsimp only); first | exact ne_lt (by walk_at "MINE lt") | exact ne_gt (by walk_at "MINE lt") | exact ne_lt (by walk_at "MINE cj") | exact ne_gt (by walk_at "MINE cj") | walk_at "MINE cj" | exact ne_sy (by walk_at "MINE cj") | omega))
local macro_rules | `(tactic| walk_at "MINE sep") => `(tactic| (repeat' (first | exact List.forall_mem_nil _ | (refine fmc ?_ ?_) | (refine fma ?_ ?_) | assumption | k_ne | (intro p9 h9 e9; simp at h9; done))))
local macro_rules | `(tactic| walk_at "MINE imm") => `(tactic| (repeat' (first | exact List.forall_mem_nil _ | (refine fmc ?_ ?_) | exact Or.inl (by assumption) | exact Or.inr (by k_mem))))
local macro_rules | `(tactic| walk_at "MINE room") => `(tactic| (try dsimp only [Around.deeper, ktrTop]; omega))
theorem ne_of_cls {h₀ h : Heap} {L a b : Addr} {o o' : Obj} {news : List (Addr × Obj)} (N : News h₀ L h news) (h1 : (a, o) ∈ news) (h2 : (b, o') ∈ news) (hc : o.cls ≠ o'.cls) : a ≠ b := fun e => by
  have x := (N _ h1).1
  have y := (N _ h2).1
  dsimp only at x y
  rw [e, y] at x
  exact hc (by rw [Option.some.inj x])
/-- a triple is used -/
theorem Does.use {w : World} {f : Addr} {args : List Value} {own imm : List (Addr × Obj)} {n : Nat} {Post : Value → List (Addr × Obj) → Prop} {mean : ExcName → Option Value} {mg mb : Str → Option Value} {dp un : Nat} {gd : Option (List Code)} {cn : Str} {cs : Scope} {a : Addr} {ccd : Value} {cl : List (Str × Addr)} {outer : List Env} {A₀ : Around} {base h₀ : Heap} {L : Addr}
    {m : Str → Option Value} {news : List (Addr × Obj)} {s : Shared} {Q E : Value → Shared → Prop} (rest : List (Addr × Obj)) (D : Does w f args own imm n Post)
    (G : Amb w mean mg mb A₀ base h₀ outer) (hk : cs.kind = .function) (F : Fr h₀ L s.heap m) (N : News h₀ L s.heap news) (hin : ∀ p ∈ own ++ rest, p ∈ news) (hsep : ∀ p ∈ own, ∀ q ∈ rest, p.1 ≠ q.1) (himm : ∀ p ∈ imm, h₀.get? p.1 = some p.2 ∨ p ∈ rest)
    (hd : dp + n < recursionLimit) (hu : un + 10 * n < cLine)
    (k : ∀ r own' h' tk, Post r own' → Fr h₀ L h' m → News h₀ L h' (own' ++ rest) → (∀ p ∈ own', ∀ q ∈ rest, p.1 ≠ q.1) → Q r { s with heap := h', toks := tk }) :
    wpAny (model Prog w) (ktrTop dp un gd cn cs L a ccd cl outer) (call (.ref f) args) Q E s := by
  have N' : News h₀ L s.heap (own ++ rest) := fun p hp => N p (hin p hp)
  refine D mean mg mb dp un gd cn cs a ccd cl outer A₀ base h₀ L m rest s Q E G hk F N' hsep (fun p hp => ?_) hd hu k
  rcases himm p hp with h1 | h1
  · refine ⟨F.keep _ _ h1, fun hm => ?_⟩
    obtain ⟨q, hq, e⟩ := List.mem_map.mp hm
    have := (N' q (List.mem_append_left _ hq)).2.2
    rw [e, h1] at this; cases this
  · refine ⟨(N' p (List.mem_append_right _ h1)).1, fun hm => ?_⟩
    obtain ⟨q, hq, e⟩ := List.mem_map.mp hm
    exact hsep q hq p h1 e
/-- what stands around, the end and the raise get names: the goals stay small -/
theorem hideQ {w : World} {A : Around} {α : Type} {p : Sem α} {Q : α → Shared → Prop} {E : Value → Shared → Prop} {s : Shared}
    (h : ∀ (Qf : α → Shared → Prop), (∀ v s', Q v s' → Qf v s') → wpAny (model Prog w) A p Qf E s) : wpAny (model Prog w) A p Q E s := h Q (fun _ _ x => x)
def frA (B : Around) : Around := { B with handled := none }
theorem hideF {w : World} {A : Around} {env : Env} {α : Type} {p : Sem α} {Q : α → Shared → Prop} {E : Value → Shared → Prop} {s : Shared} (hp : PassesOwn (model Prog w) A env E) (hh : frA A = A)
    (h : ∀ (B : Around) (Qf : α → Shared → Prop) (Ef : Value → Shared → Prop), frA B = A → (frA B).handled = none → PassesOwn (model Prog w) (frA B) env Ef → (∀ v s', Q v s' → Qf v s') → wpAny (model Prog w) (frA B) p Qf Ef s) : wpAny (model Prog w) A p Q E s := by
  have h1 := h A Q E hh rfl (by rw [hh]; exact hp) (fun _ _ x => x)
  rw [hh] at h1
  exact h1
theorem frA_units {B A : Around} {n : Nat} (h : frA B = A) (hn : A.units + 64 < n) : (frA B).units + 64 < n := by rw [h]; exact hn
local macro_rules | `(tactic| units_room) => `(tactic| (refine frA_units (by assumption) ?_; (show _ + 64 < cLine); dsimp only [Around.deeper, ktrTop]; omega))
theorem Does.useA {w : World} {f : Addr} {args : List Value} {own imm : List (Addr × Obj)} {n : Nat} {Post : Value → List (Addr × Obj) → Prop} {mean : ExcName → Option Value} {mg mb : Str → Option Value} {dp un : Nat} {gd : Option (List Code)} {cn : Str} {cs : Scope} {a : Addr} {ccd : Value} {cl : List (Str × Addr)} {outer : List Env} {A A₀ : Around} {base h₀ : Heap} {L : Addr}
    {m : Str → Option Value} {news : List (Addr × Obj)} {s : Shared} {Q E : Value → Shared → Prop} (hA : A = ktrTop dp un gd cn cs L a ccd cl outer) (rest : List (Addr × Obj)) (D : Does w f args own imm n Post)
    (G : Amb w mean mg mb A₀ base h₀ outer) (hk : cs.kind = .function) (F : Fr h₀ L s.heap m) (N : News h₀ L s.heap news) (hin : ∀ p ∈ own ++ rest, p ∈ news) (hsep : ∀ p ∈ own, ∀ q ∈ rest, p.1 ≠ q.1) (himm : ∀ p ∈ imm, h₀.get? p.1 = some p.2 ∨ p ∈ rest)
    (hd : dp + n < recursionLimit) (hu : un + 10 * n < cLine)
    (k : ∀ r own' h' tk, Post r own' → Fr h₀ L h' m → News h₀ L h' (own' ++ rest) → (∀ p ∈ own', ∀ q ∈ rest, p.1 ≠ q.1) → Q r { s with heap := h', toks := tk }) :
    wpAny (model Prog w) A (call (.ref f) args) Q E s := by
  subst hA
  exact Does.use rest D G hk F N hin hsep himm hd hu k
-- Next
theorem top_Next : True := by
  w_top off
  trivial
/-- the law's feed stands at its k-th draw -/
def Feed (w : World) (cells : Addr) (k : Int) (o : Obj) : Prop := ∃ tk, o.IsDictOf (strKind Prog w) [(Str.ofString "cells", .ref cells), (Str.ofString "spot", .int k tk)]

inductive NextR (w : World) (d cells : Addr) (k wide : Int) (v : Value) (own : List (Addr × Obj)) : Prop
  | mk (r : Int) (t : Tok) (o' : Obj) (hv : v = .int r t) (hown : own = [(d, o')]) (h0 : 0 ≤ r) (h1 : r < wide) (hF : Feed w cells (k + 1) o') : NextR w d cells k wide v own
theorem next_c {w : World} {d cells : Addr} {o : Obj} {k wide : Int} {tw : Tok} {vs : List Value} {ns : List Int} {n : Nat}
    (ho : Feed w cells k o) (hi : IntsAre vs ns) (hlen : ns.length ≤ 40) (hk0 : 0 ≤ k) (hk1 : k ≤ 1000) (hw : 0 < wide) (hw1 : wide ≤ 100) :
    Does w 163 [.ref d, .int wide tw] [(d, o)] [(cells, listOf vs.toArray n)] 1 (NextR w d cells k wide) := by
  intro mean mg mb dp un gd cn cs a ccd cl outer A₀ base h₀ L m rest s Q E G hk F N hsep himm hd hu hret
  obtain ⟨tk, ho⟩ := ho
  walk_at "MINE in"
  intro g L' h₁ tk₁ FG F' N' G' st lt
  refine hideF (by passes_own) rfl fun AA Qf Ef hAA hAh hEf hQf => ?_
  refine hideG fun G0 hG0 => ?_
  obtain ⟨B', X', T'⟩ := G'
  refine hG0 ?_
  clear hG0
  have hc : g.get? cells = some (listOf vs.toArray n) := st _ _ (himm _ (.head _)).1 (himm _ (.head _)).2
  have hcl : g.IsList cells vs.toArray := ⟨_, hc, rfl, n, rfl⟩
  clear F N G st himm hsep
  try dsimp only
  try k_fold
  walk_at "MINE go"
  all_goals (try dsimp only)
  all_goals (refine leaveF (by assumption) (by assumption) ?_; intro F9 N9 S9; refine hret _ _ _ _ ⟨_, _, _, rfl, rfl, fmod_lo _ hw, fmod_hi _ hw, _, by assumption⟩ F9 N9 S9)
-- TupRev
theorem top_TupRev : True := by
  w_top off
  trivial
theorem rev_adjust (n : Nat) : Builtin.Slice.sliceAdjust none none (-1) (n : Int) = ((n : Int) - 1, -1) := by
  unfold Builtin.Slice.sliceAdjust
  simp
theorem rev_places (n : Nat) : Builtin.Slice.slicePlaces ((n : Int) - 1) (-1) (-1) = n := by
  unfold Builtin.Slice.slicePlaces
  have h1 : ¬ ((-1 : Int) > 0) := by omega
  simp only [h1, if_false]
  split <;> simp <;> omega
theorem rev_pick (xs : List Value) : ((List.range xs.length).filterMap fun (k : Nat) => xs.toArray[(((xs.length : Int) - 1) + (k : Int) * (-1)).toNat]?).toArray = xs.reverse.toArray := by
  congr 1
  have h := krv_all xs.toArray
  have e : (fun (k : Nat) => xs.toArray[(((xs.length : Int) - 1) + (k : Int) * (-1)).toNat]?) = fun k => xs.toArray[xs.length - 1 - k]? := by
    funext k
    by_cases hk : k ≤ xs.length - 1
    · have : (((xs.length : Int) - 1) + (k : Int) * (-1)).toNat = xs.length - 1 - k := by omega
      rw [this]
    · have : (((xs.length : Int) - 1) + (k : Int) * (-1)).toNat = xs.length - 1 - k := by omega
      rw [this]
  rw [e]
  have h2 := krv_range xs.length
  have h3 : (List.range xs.length).filterMap (fun k => xs.toArray[xs.length - 1 - k]?) = ((List.range xs.length).map (fun k => xs.length - 1 - k)).filterMap (fun k => xs.toArray[k]?) := by
    rw [List.filterMap_map]; rfl
  rw [h3, h2, List.filterMap_reverse]
  rw [List.size_toArray] at h
  rw [h]

section
variable {w : World} {A : Around} {E : Value → Shared → Prop} {s : Shared} {h₀ : Heap} {L : Addr} {m : Str → Option Value} {news : List (Addr × Obj)}
theorem rev_applied {sl : Addr} {n : Nat} {u : Tok} {Q : Int × Int × Nat → Shared → Prop} (hs : s.heap.IsSliceOf sl .none .none (.int (-1) u)) (h : Q ((n : Int) - 1, -1, n) s) :
    wpAny (model Prog w) A (Builtin.Slice.sliceApplied (.ref sl) (pure (n : Int))) Q E s := by
  obtain ⟨os, hos, hcs, hds⟩ := id hs
  unfold Builtin.Slice.sliceApplied Builtin.Slice.sliceFields
  refine wpAny_bind (wpAny_bind (wpAny_field hos hds (x := .none) rfl (wpAny_bind (wpAny_field hos hds (x := .none) rfl (wpAny_bind (wpAny_field hos hds (x := .int (-1) u) rfl (wpAny_pure ?_)))))))
  refine wpAny_bind (slicePart_int ?_)
  show wpAny _ _ (if ((-1 : Int) == 0) = true then _ else _) _ _ s
  rw [if_neg (by decide)]
  refine wpAny_bind (slicePart_none (wpAny_bind (slicePart_none (wpAny_bind (wpAny_pure ?_)))))
  show wpAny _ _ (match Builtin.Slice.sliceAdjust none none (-1) (n : Int) with | (lo, hi) => pure (lo, (-1 : Int), Builtin.Slice.slicePlaces lo hi (-1))) _ _ s
  rw [rev_adjust n]
  show wpAny _ _ (pure ((n : Int) - 1, (-1 : Int), Builtin.Slice.slicePlaces ((n : Int) - 1) (-1) (-1))) _ _ s
  rw [rev_places n]
  exact wpAny_pure h

theorem rev_getItem {t sl : Addr} {us : List Value} {u : Tok} {Q : Value → Shared → Prop} (ht : IsTup s.heap t us.toArray) (hs : s.heap.IsSliceOf sl .none .none (.int (-1) u))
    (h : Q (.ref s.heap.objs.size) { s with heap := s.heap.push { cls := .type "tuple", data := .seq us.reverse.toArray } })
    (hsz : us.length ≤ sizeLine) : wpAny (model Prog w) A (getItem (.ref t) (.ref sl)) Q E s := by
  have hrev : sizeOk (.seq us.reverse.toArray) := by
    show us.reverse.toArray.size ≤ sizeLine
    rw [List.size_toArray, List.length_reverse]
    exact hsz
  obtain ⟨os, hos, hcs, hds⟩ := id hs
  have hTs : s.TypeIs (.ref sl) "slice" := ⟨os, hos, hcs⟩
  unfold getItem
  try with_reducible refine wpAny_holding ?_
  refine wpAny_bind (wpAny_sequenceKey ht.typeIs (by decide) ?_)
  refine wpAny_bind (wpAny_callSpecial?_slot (name := Str.ofString "__getitem__") ht.typeIs slot_tuple_getitem
    (wpAny_call_entry slot_tuple_getitem ht.typeIs entry_tuple_getitem ?_ (args_tuple_getitem _ _)))
  show wpAny _ _ (Builtin.Tuple.tupleItemsOf (.ref t) >>= _) _ _ s
  refine wpAny_bind (tupleItemsOf_ ht ?_)
  refine wpAny_bind (wpAny_typeOf hTs ?_)
  rw [if_pos (by decide)]
  refine wpAny_bind (rev_applied (n := us.toArray.size) hs ?_)
  show wpAny _ _ (if (((us.toArray.size : Nat) : Int) - 1 == 0 && (-1 : Int) == 1 && us.toArray.size == us.toArray.size) = true then _ else _) _ _ s
  rw [if_neg (by simp)]
  rw [List.size_toArray, rev_pick us]
  first
    | exact wpAny_bind (m := Builtin.Tuple.tupleExact _) (wpAny_newObj_type (wpAny_pure ⟨_, rfl, wpAny_pure h⟩) hrev)
    | exact wpAny_bind (m := Builtin.Tuple.tupleExact _) (wpAny_newObj_type (wpAny_bind (wpAny_pure (wpAny_pure ⟨_, rfl, wpAny_pure h⟩))) hrev)
    | exact wpAny_bind (wpAny_bind (m := Builtin.Tuple.tupleExact _) (wpAny_newObj_type (wpAny_pure (wpAny_pure ⟨_, rfl, wpAny_pure h⟩)) hrev))
    | exact wpAny_bind (wpAny_bind (m := Builtin.Tuple.tupleExact _) (wpAny_newObj_type (wpAny_pure ⟨_, rfl, wpAny_pure h⟩) hrev))

theorem rev_tuple {value slice : Expr} {t : Addr} {us : List Value} {u : Tok} {ops : List Value} {Q : Value → Shared → Prop}
    (F : Fr h₀ L s.heap m) (N : News h₀ L s.heap news) (ht : IsTup s.heap t us.toArray)
    (h : ∀ D h', Fr h₀ L h' m → News h₀ L h' ((D, tup us.reverse) :: news) → (∀ p ∈ news, p.1 < D) → Q (.ref D) { s with heap := h' })
    (hsz : us.length ≤ sizeLine)
    (hs : subscripted slice false (.ref t) (.ref s.heap.objs.size) = operate ops (getItem (.ref t) (.ref s.heap.objs.size)))
    (hg : ∀ r, letTemporaryGo value (.ref t) r = pure () := by intro _; with_unfolding_all rfl) :
    wpAny (model Prog w) A (subscriptTail value slice (.ref t) (.ref s.heap.objs.size)) Q E { s with heap := s.heap.push { cls := .type "slice", data := .fields #[.none, .none, .int (-1) u] } } := by
  have ht' : IsTup (s.heap.push { cls := .type "slice", data := .fields #[.none, .none, .int (-1) u] }) t us.toArray := ht.keeps fun _ _ e => Heap.get?_push_of_some _ e
  refine subscriptTail_ops (s := { s with heap := s.heap.push { cls := .type "slice", data := .fields #[.none, .none, .int (-1) u] } }) ht'.typeIs slot_tuple_getitem.lookup
    (rev_getItem ht' (Heap.IsSliceOf.new ..) ?_ hsz) hs hg
  have N1 := News.push (F.push { cls := .type "slice", data := .fields #[.none, .none, .int (-1) u] }) (N.grown fun _ _ e => Heap.get?_push_of_some _ e) (tup us.reverse)
  rw [Heap.size_push] at N1
  show Q (.ref (s.heap.push _).objs.size) _
  rw [Heap.size_push]
  exact h _ _ ((F.push _).push _) N1 fun p hp => Nat.lt_succ_of_lt (Heap.lt_size (N p hp).1)
end
local macro_rules | `(tactic| walk_at "subscriptTail Name Slice ref ref") => `(tactic| (k_here; (with_reducible show wpAny _ _ (subscriptTail _ (PySem.Expr.Slice none none (some _) _) (Value.ref _) (Value.ref _)) _ _ _); k_dflt (refine' rev_tuple (by k_asm) (by k_asm) (by walk_at "MINE isT") ?_ (by rw [sizeLine_eq]; omega) (by with_unfolding_all rfl) (by intro _; with_unfolding_all rfl)); intro D' h' F' N' l1; (try k_lt l1); (try k_sweep)))
-- Clause
theorem top_Clause : True := by
  w_top off
  trivial
theorem Feed.cls {w : World} {cells : Addr} {k : Int} {o : Obj} (h : Feed w cells k o) : o.cls = .type "dict" := by
  obtain ⟨_, h⟩ := h
  obtain ⟨_, _, hc, _⟩ := h
  exact hc.1
/-- a clause as the project means it: the variables rise -/
def Proper (c : List Int) : Prop := c.Pairwise (fun a b => a.natAbs < b.natAbs) ∧ ∀ x ∈ c, x ≠ 0
def Small (n : Nat) (c : List Int) : Prop := c.length ≤ n ∧ ∀ x ∈ c, x.natAbs ≤ 4

theorem pw_snoc {c : List Int} {y : Int} (h : c.Pairwise (fun a b => a.natAbs < b.natAbs)) (h2 : ∀ x ∈ c, x.natAbs < y.natAbs) : (c ++ [y]).Pairwise (fun a b => a.natAbs < b.natAbs) := by
  refine List.pairwise_append.mpr ⟨h, List.pairwise_singleton _ _, fun a ha b hb => ?_⟩
  rw [List.mem_singleton.mp hb]
  exact h2 a ha
theorem ab_snoc {c : List Int} {y : Int} {i : Nat} (h : ∀ x ∈ c, x ≠ 0 ∧ x.natAbs ≤ i) (h1 : y ≠ 0) (h2 : y.natAbs ≤ i + 1) : ∀ x ∈ c ++ [y], x ≠ 0 ∧ x.natAbs ≤ i + 1 := fun x hx => by
  rcases List.mem_append.mp hx with hx | hx
  · exact ⟨(h x hx).1, Nat.le_succ_of_le (h x hx).2⟩
  · rw [List.mem_singleton.mp hx]; exact ⟨h1, h2⟩
inductive ClauseR (w : World) (d cells : Addr) (k : Int) (v : Value) (own : List (Addr × Obj)) : Prop
  | mk (t : Addr) (o' : Obj) (us : List Value) (c : List Int) (hv : v = .ref t) (hown : own = [(d, o'), (t, tup us)]) (hne : t ≠ d) (hF : Feed w cells (k + 1) o') (hus : IntsAre us c) (hp : Proper c) (hs : Small 4 c) : ClauseR w d cells k v own
theorem clause_c {w : World} {d cells : Addr} {o : Obj} {k wide : Int} {tw : Tok} {vs : List Value} {ns : List Int} {n : Nat}
    (ho : Feed w cells k o) (hi : IntsAre vs ns) (hlen : ns.length ≤ 40) (hk0 : 0 ≤ k) (hk1 : k ≤ 900) (hw : 2 ≤ wide) (hw1 : wide ≤ 4) :
    Does w 170 [.ref d, .int wide tw] [(d, o)] [(cells, listOf vs.toArray n)] 2 (ClauseR w d cells k) := by
  intro mean mg mb dp un gd cn cs a ccd cl outer A₀ base h₀ L m rest s Q E G hk F N hsep himm hd hu hret
  walk_at "MINE in"
  intro g L' h₁ tk₁ FG F' N' G' st lt
  refine hideF (by passes_own) rfl fun AA Qf Ef hAA hAh hEf hQf => ?_
  have hc : g.get? cells = some (listOf vs.toArray n) := st _ _ (himm _ (.head _)).1 (himm _ (.head _)).2
  clear F N G st himm hsep
  have ⟨B', X', T'⟩ := G'
  try dsimp only
  try k_fold
  walk_at "MINE go"
  have hp1 : (0 : Int) < 3 ^ wide.toNat := by
    have : wide = 2 ∨ wide = 3 ∨ wide = 4 := by omega
    rcases this with rfl | rfl | rfl <;> decide
  have hp2 : (3 : Int) ^ wide.toNat ≤ 100 := by
    have : wide = 2 ∨ wide = 3 ∨ wide = 4 := by omega
    rcases this with rfl | rfl | rfl <;> decide
  refine Does.useA hAA [] (next_c ho hi hlen hk0 (by omega) hp1 hp2) G' rfl F' N' (by kst_inAny) (by walk_at "MINE sep") (by walk_at "MINE imm") (by walk_at "MINE room") (by walk_at "MINE room") ?_
  rintro v9 own9 h₂ tk₂ hJ9 F₂ N₂ S₂
  refine hideG fun G0 hG0 => ?_
  obtain ⟨r, t, o', rfl, rfl, hr0, hr1, ho'⟩ := hJ9
  refine hG0 ?_
  clear hG0
  clear F' N'
  simp only [List.append_nil] at N₂
  try dsimp only
  try k_fold
  walk_at "MINE go"
  walk_at "MINE for"
  walk_at "MINE go"
  rename_i lf hA l1 dt hB l2 hC hD hE hR0 tkR t1 u1 v1 R F3 N3 up3
  refine halt_mk ?_
  refine loop_range (σ := (Int × Tok) × (List Value × List Int × Nat)) (n := wide.toNat) (fun c => [(lf, listOf c.2.1.toArray c.2.2.2), (d, o')]) (fun c => [(Str.ofString "number", .int c.1.1 c.1.2), (Str.ofString "found", .ref lf)])
    (fun i c => IntsAre c.2.1 c.2.2.1 ∧ c.2.2.1.Pairwise (fun a b => a.natAbs < b.natAbs) ∧ (∀ x ∈ c.2.2.1, x ≠ 0 ∧ x.natAbs ≤ i) ∧ c.2.2.1.length ≤ i) ((r, t), ([], [], 0)) hAh R ?ks ?kn F3 (fun p hp => N3 p (.tail _ hp)) ?kp ?kj ?turn ?done
  case ks => exact small_one (by omega) (by omega) (by omega) (by omega)
  case kn => rw [rangeSize_nat]; omega
  case kp => kst_all
  case kj => exact ⟨.nil, .nil, fun _ h => (nomatch h), Nat.le_refl _⟩
  case turn =>
    rintro i t2 ⟨⟨z, tz⟩, us, c, nn⟩ u h₄ tk₄ I oI hi hJ9 hoff F₄ N₄
    refine hideQ fun Qt hQt => ?_
    refine hideG fun G0 hG0 => ?_
    obtain ⟨hus, hpw, hab, hln⟩ := hJ9
    refine hG0 ?_
    clear hG0
    dsimp only [kstB] at F₄ N₄ hus hpw hab hln hoff
    replace hoff := allNe_of hoff
    dsimp only [AllNe] at hoff
    have hul := hus.length
    try k_fold
    walk_at "MINE go"
    all_goals (try dsimp only [TurnEnd])
    · (rename News _ _ _ _ => N5); (rename Fr _ _ _ _ => F5); try simp only [List.push_toArray] at N5
      refine turnNext ((_, _), (us ++ [Value.int (1 + (i : Int)) t2], c ++ [1 + (i : Int)], nn + 1)) F5 N5 (by walk_at "MINE sep") (by kst_all) ⟨hus.append (.cons _ _ .nil), ?_, ?_, ?_⟩
      · exact pw_snoc hpw fun x hx => by have := (hab x hx).2; omega
      · exact ab_snoc hab (by omega) (by omega)
      · simp only [List.length_append, List.length_cons, List.length_nil]; omega
    · (rename News _ _ _ _ => N5); (rename Fr _ _ _ _ => F5); try simp only [List.push_toArray] at N5
      refine turnNext ((_, _), (us ++ [Value.int (-(1 + (i : Int))) _], c ++ [-(1 + (i : Int))], nn + 1)) F5 N5 (by walk_at "MINE sep") (by kst_all) ⟨hus.append (.cons _ _ .nil), ?_, ?_, ?_⟩
      · exact pw_snoc hpw fun x hx => by have := (hab x hx).2; omega
      · exact ab_snoc hab (by omega) (by omega)
      · simp only [List.length_append, List.length_cons, List.length_nil]; omega
    · (rename News _ _ _ _ => N5); (rename Fr _ _ _ _ => F5)
      refine turnNext ((_, _), (us, c, nn)) F5 N5 (by walk_at "MINE sep") (by kst_all) ⟨hus, hpw, fun x hx => ⟨(hab x hx).1, by have := (hab x hx).2; omega⟩, by dsimp only; omega⟩
  case done =>
    rintro ⟨⟨z, tz⟩, us, c, nn⟩ u h₄ tk₄ hJ9 F₄ N₄
    refine hideG fun G0 hG0 => ?_
    obtain ⟨hus, hpw, hab, hln⟩ := hJ9
    refine hG0 ?_
    clear hG0
    clear F3 N3
    dsimp only [kstB] at F₄ N₄ hus hpw hab hln
    have hul := hus.length
    try k_fold
    try dsimp only
    walk_at "MINE go"
    rename_i F5 N5 D h5 F6 N6 up6
    walk_at "MINE out"
    refine leaveF F6 (news' := [(d, o'), (D, tup us)]) (fun p hp => N6 p (by revert p; walk_at "MINE sub")) ?_
    intro F9 N9 S9
    have hne : D ≠ d := ne_of_cls (o := tup us) (o' := o') N9 (by simp) (by simp) (by rw [ho'.cls]; show Value.type "tuple" ≠ Value.type "dict"; decide)
    exact hret _ _ _ _ ⟨D, o', us, c, rfl, rfl, hne, ho', hus, ⟨hpw, fun x hx => (hab x hx).1⟩, by omega, fun x hx => by have := (hab x hx).2; omega⟩ F9 N9 S9
-- Bent
theorem top_Bent : True := by
  w_top off
  trivial
inductive BentR (w : World) (d cells t : Addr) (k : Int) (us : List Value) (c : List Int) (v : Value) (own : List (Addr × Obj)) : Prop
  | mk (t' : Addr) (o' : Obj) (us' : List Value) (c' : List Int) (hv : v = .ref t') (hor : (own = [(d, o')] ∧ t' = t ∧ us' = us ∧ c' = c) ∨ (own = [(d, o'), (t', tup us')] ∧ t' ≠ d)) (hF : Feed w cells (k + 1) o') (hus : IntsAre us' c') (hs : Small 5 c') : BentR w d cells t k us c v own
theorem bent_c {w : World} {d cells t : Addr} {o : Obj} {k : Int} {vs us : List Value} {ns c : List Int} {n : Nat}
    (ho : Feed w cells k o) (hi : IntsAre vs ns) (hlen : ns.length ≤ 40) (hk0 : 0 ≤ k) (hk1 : k ≤ 900) (hus : IntsAre us c) (hsm : Small 4 c) :
    Does w 177 [.ref d, .ref t] [(d, o)] [(cells, listOf vs.toArray n), (t, tup us)] 2 (BentR w d cells t k us c) := by
  intro mean mg mb dp un gd cn cs a ccd cl outer A₀ base h₀ L m rest s Q E G hk F N hsep himm hd hu hret
  walk_at "MINE in"
  intro g L' h₁ tk₁ FG F' N' G' st lt
  refine hideF (by passes_own) rfl fun AA Qf Ef hAA hAh hEf hQf => ?_
  have hc : g.get? cells = some (listOf vs.toArray n) := st _ _ (himm _ (.head _)).1 (himm _ (.head _)).2
  have ht : g.get? t = some (tup us) := st _ _ (himm _ (.tail _ (.head _))).1 (himm _ (.tail _ (.head _))).2
  have hT : IsTup g t us.toArray := ⟨_, ht, rfl, 0, rfl⟩
  have hul := hus.length
  have hsl := hsm.1
  clear F N G st himm hsep
  have ⟨B', X', T'⟩ := G'
  try dsimp only
  try k_fold
  walk_at "MINE go"
  refine Does.useA hAA [] (next_c ho hi hlen hk0 (by omega) (by decide) (by decide)) G' rfl F' N' (by walk_at "MINE sub") (by walk_at "MINE sep") (by walk_at "MINE imm") (by walk_at "MINE room") (by walk_at "MINE room") ?_
  rintro v9 own9 h₂ tk₂ hJ9 F₂ N₂ S₂
  refine hideG fun G0 hG0 => ?_
  obtain ⟨r, tr, o', rfl, rfl, hr0, hr1, ho'⟩ := hJ9
  refine hG0 ?_
  clear hG0
  clear F' N'
  simp only [List.append_nil] at N₂
  try dsimp only
  try k_fold
  walk_at "MINE go"
  all_goals (try dsimp only)
  · (rename Fr _ _ _ _ => F5); (rename News _ _ _ _ => N5)
    walk_at "MINE out"
    refine leaveF F5 (news' := [(d, o'), (_, tup us.reverse)]) (fun p hp => N5 p (by revert p; walk_at "MINE sub")) ?_
    intro F9 N9 S9
    exact hret _ _ _ _ ⟨_, o', us.reverse, c.reverse, rfl, .inr ⟨rfl, ne_of_cls (o := tup us.reverse) (o' := o') N9 (List.mem_append_left _ (.tail _ (.head _))) (List.mem_append_left _ (.head _)) (by rw [ho'.cls]; show Value.type "tuple" ≠ Value.type "dict"; decide)⟩, ho', hus.reverse, by rw [List.length_reverse]; omega, fun x hx => hsm.2 x (List.mem_reverse.mp hx)⟩ F9 N9 S9
  · (rename c = [] => hc0)
    have : c.length = 0 := by rw [hc0]; rfl
    omega
  · (rename Fr _ _ _ _ => F5); (rename News _ _ _ _ => N5)
    walk_at "MINE out"
    refine leaveF F5 (news' := [(d, o'), (_, tup (us ++ [_]))]) (fun p hp => N5 p (by revert p; walk_at "MINE sub")) ?_
    intro F9 N9 S9
    refine hret _ _ _ _ ⟨_, o', us ++ [_], c ++ [_], rfl, .inr ⟨rfl, ne_of_cls (o := tup (us ++ [_])) (o' := o') N9 (List.mem_append_left _ (.tail _ (.head _))) (List.mem_append_left _ (.head _)) (by rw [ho'.cls]; show Value.type "tuple" ≠ Value.type "dict"; decide)⟩, ho', by assumption, by simp only [List.length_append, List.length_cons, List.length_nil]; omega, fun x hx => ?_⟩ F9 N9 S9
    rcases List.mem_append.mp hx with hx | hx
    · exact hsm.2 x hx
    · rw [List.mem_singleton.mp hx, Int.natAbs_neg]
      have h0 : 0 < c.length := by omega
      simp only [Int.toNat_zero, List.getD_eq_getElem?_getD, List.getElem?_eq_getElem h0, Option.getD_some]
      exact hsm.2 _ (List.getElem_mem h0)
  · (rename Fr _ _ _ _ => F5); (rename News _ _ _ _ => N5)
    walk_at "MINE out"
    refine leaveF F5 (news' := [(d, o'), (_, tup [Value.int 0 _])]) (fun p hp => N5 p (by revert p; walk_at "MINE sub")) ?_
    intro F9 N9 S9
    exact hret _ _ _ _ ⟨_, o', [Value.int 0 _], [0], rfl, .inr ⟨rfl, ne_of_cls (o := tup [Value.int 0 _]) (o' := o') N9 (List.mem_append_left _ (.tail _ (.head _))) (List.mem_append_left _ (.head _)) (by rw [ho'.cls]; show Value.type "tuple" ≠ Value.type "dict"; decide)⟩, ho', .cons _ _ .nil, by simp, by simp⟩ F9 N9 S9
  · walk_at "MINE out"
    refine leaveF (by assumption) (by assumption) ?_
    intro F9 N9 S9
    exact hret _ _ _ _ ⟨t, o', us, c, rfl, .inl ⟨rfl, rfl, rfl, rfl⟩, ho', hus, by omega, hsm.2⟩ F9 N9 S9
-- IsCl
theorem top_IsCl : True := by
  w_top off
  trivial
theorem isi_tup {w : World} {A : Around} {E : Value → Shared → Prop} {s : Shared} {t : Addr} {items : Array Value} {Q : Value → Shared → Prop} (hx : IsTup s.heap t items) (h : Q (.bool true) s) :
    wpAny (model Prog w) A (call (.builtin "isinstance") [.ref t, .type "tuple"]) Q E s := by
  obtain ⟨o, ho, hc, _⟩ := hx
  exact call_isinstance (isinstance_true (Tx := "tuple") PySem.F.isi_meta_tuple PySem.F.sub_tuple_tuple) ⟨⟨o, ho, hc⟩, h⟩
local macro_rules | `(tactic| walk_at "call builtin:isinstance") => `(tactic| (k_here; (with_reducible show wpAny _ _ (call (Value.builtin "isinstance") [Value.ref _, Value.type "tuple"]) _ _ _); k_dflt (refine isi_tup (by walk_at "MINE isT") ?_)))
theorem not_proper {c : List Int} {i : Nat} {y z : Int} (hs : c = c.take i ++ y :: c.drop (i + 1)) (hle : (y.natAbs : Int) ≤ z) (hex : z = 0 ∨ ∃ x ∈ c.take i, (x.natAbs : Int) = z) : ¬ Proper c := by
  rintro ⟨hp, hn⟩
  rcases hex with h0 | ⟨x, hx, hz⟩
  · exact hn y (by rw [hs]; simp) (by omega)
  · rw [hs] at hp
    have := (List.pairwise_append.mp hp).2.2 x hx y (.head _)
    omega
theorem isclause_c {w : World} {t : Addr} {us : List Value} {c : List Int} (hus : IntsAre us c) (hsm : Small 5 c) :
    Does w 85 [.ref t] [] [(t, tup us)] 1 (fun v own => ∃ b, v = .bool b ∧ own = [] ∧ (b = true ↔ Proper c)) := by
  intro mean mg mb dp un gd cn cs a ccd cl outer A₀ base h₀ L m rest s Q E G hk F N hsep himm hd hu hret
  walk_at "MINE in"
  intro g L' h₁ tk₁ FG F' N' G' st lt
  refine hideF (by passes_own) rfl fun AA Qf Ef hAA hAh hEf hQf => ?_
  have ht : g.get? t = some (tup us) := st _ _ (himm _ (.head _)).1 (himm _ (.head _)).2
  have hT : IsTup g t us.toArray := ⟨_, ht, rfl, 0, rfl⟩
  have hul := hus.length
  have hsl := hsm.1
  clear F N G st himm hsep
  have ⟨B', X', T'⟩ := G'
  try dsimp only
  try k_fold
  walk_at "MINE go"
  walk_at "MINE for"
  walk_at "MINE go"
  (rename Fr _ _ _ _ => F3); (rename News _ _ _ _ => N3)
  refine halt_mk ?_
  refine loop_tuple (σ := Int × Tok) (fun c => []) (fun z => [(Str.ofString "ahead", .int z.1 z.2)])
    (fun i z => Proper (c.take i) ∧ 0 ≤ z.1 ∧ (∀ x ∈ c.take i, (x.natAbs : Int) ≤ z.1) ∧ (z.1 = 0 ∨ ∃ x ∈ c.take i, (x.natAbs : Int) = z.1)) (0, _) hAh (.inl ⟨_, ht, rfl, 0, rfl⟩) F3 N3 (by kst_all) ⟨⟨.nil, fun _ h => (nomatch h)⟩, Int.le_refl _, fun _ h => (nomatch h), .inl rfl⟩ ?turn ?done
  case turn =>
    rintro i v ⟨z, tz⟩ u h₄ tk₄ I oI hv hJ9 hoff F₄ N₄
    refine hideQ fun Qt hQt => ?_
    refine hideG fun G0 hG0 => ?_
    obtain ⟨hp, hz0, hab, hex⟩ := hJ9
    refine hG0 ?_
    clear hG0
    clear F3 N3
    refine hideG fun G0 hG0 => ?_
    obtain ⟨y, ty, rfl, hy⟩ := hus.at i v hv
    refine hG0 ?_
    clear hG0
    have hti : c.take (i + 1) = c.take i ++ [y] := by rw [List.take_add_one, hy]; rfl
    have hspl : c = c.take i ++ y :: c.drop (i + 1) := by
      have h1 := List.take_append_drop (i + 1) c
      rw [hti, List.append_assoc] at h1
      exact h1.symm
    dsimp only [kstB] at F₄ N₄ hp hz0 hab hex
    try k_fold
    walk_at "MINE go"
    all_goals (try dsimp only [TurnEnd])
    · (rename (if y < 0 then -y else y) ≤ z => hle)
      walk_at "MINE out"
      refine leaveF (by assumption) (news' := []) (fun _ h => nomatch h) ?_
      intro F9 N9 S9
      refine hret _ _ _ _ ⟨false, rfl, rfl, by simp, fun hpc => ?_⟩ F9 N9 S9
      exact absurd hpc (not_proper hspl (by split at hle <;> omega) hex)
    · (rename ¬(if y < 0 then -y else y) ≤ z => hgt); (rename News _ _ _ _ => N5); (rename Fr _ _ _ _ => F5)
      have hay : (if y < 0 then -y else y) = (y.natAbs : Int) := by split <;> omega
      rw [hay] at hgt
      refine turnNext (_, _) F5 N5 (fun _ h => nomatch h) (by kst_all) ?_
      dsimp only
      rw [hti, hay]
      refine ⟨⟨pw_snoc hp.1 fun x hx => by have := hab x hx; omega, fun x hx => ?_⟩, by omega, fun x hx => ?_, .inr ⟨y, by simp, rfl⟩⟩
      · rcases List.mem_append.mp hx with hx | hx
        · exact hp.2 x hx
        · rw [List.mem_singleton.mp hx]; omega
      · rcases List.mem_append.mp hx with hx | hx
        · have := hab x hx; omega
        · rw [List.mem_singleton.mp hx]; omega
  case done =>
    rintro ⟨z, tz⟩ u h₄ tk₄ hJ9 F₄ N₄
    refine hideG fun G0 hG0 => ?_
    obtain ⟨hp, hz0, hab, hex⟩ := hJ9
    refine hG0 ?_
    clear hG0
    clear F3 N3
    dsimp only [kstB] at F₄ N₄
    try k_fold
    try dsimp only
    walk_at "MINE go"
    try dsimp only
    walk_at "MINE out"
    refine leaveF (by assumption) (news' := []) (fun _ h => nomatch h) ?_
    intro F9 N9 S9
    refine hret _ _ _ _ ⟨true, rfl, rfl, fun _ => ?_, fun _ => rfl⟩ F9 N9 S9
    rw [hul, List.take_length] at hp
    exact hp
-- Comp
theorem top_Comp : True := by
  w_top off
  trivial
def EltEnd {σ : Type} (h₀ : Heap) (C : Addr) (fx : List (Addr × Obj)) (led : σ → List (Addr × Obj)) (J : σ → Prop) (s s' : Shared) : Prop :=
  ∃ c h' tk m', s' = { s with heap := h', toks := tk } ∧ Fr h₀ C h' m' ∧ News h₀ C h' (fx ++ led c) ∧ (∀ p ∈ fx, ∀ q ∈ led c, p.1 ≠ q.1) ∧ J c
theorem eltEnd {σ : Type} {h₀ : Heap} {C : Addr} {fx : List (Addr × Obj)} {led : σ → List (Addr × Obj)} {J : σ → Prop} {s : Shared} {h' : Heap} {tk : Nat} {m' : Str → Option Value} (c : σ)
    (F : Fr h₀ C h' m') (N : News h₀ C h' (fx ++ led c)) (hoff : ∀ p ∈ fx, ∀ q ∈ led c, p.1 ≠ q.1) (hJ : J c) : EltEnd h₀ C fx led J s { s with heap := h', toks := tk } := ⟨c, h', tk, m', rfl, F, N, hoff, hJ⟩

abbrev TestTree (ifs : List Expr) (cenv : Env) : Sem Bool := forIn ifs true fun c r => if r = true then do let ok ← isTrue c cenv (eval c cenv); pure (ForInStep.yield ok) else pure (ForInStep.yield r)

/-- the end of an element that has called: the frame's own dict may be another object, with the same names -/
def EltEndL {σ : Type} (h₀ : Heap) (L : Addr) (m : Str → Option Value) (C : Addr) (p1 p2 : Addr × Obj) (led : σ → List (Addr × Obj)) (J : σ → Prop) (s s' : Shared) : Prop :=
  ∃ c h' tk m' oL', s' = { s with heap := h', toks := tk } ∧ (∀ h'' : Heap, h''.get? L = some oL' → h''.Ns L m) ∧ Fr h₀ C h' m' ∧ News h₀ C h' ([(L, oL'), p1, p2] ++ led c) ∧ (∀ p ∈ [(L, oL'), p1, p2], ∀ q ∈ led c, p.1 ≠ q.1) ∧ J c
inductive CInv {σ : Type} (h₀ : Heap) (C L D I : Addr) (m : Str → Option Value) (led : σ → List (Addr × Obj)) (J : Nat → List Value → σ → Prop) (St : Nat → Heap → Prop) (s : Shared) (n k : Nat) (s' : Shared) : Prop
  | mk (h' : Heap) (tk : Nat) (mC : Str → Option Value) (ys : List Value) (c : σ) (i nD : Nat) (oL : Obj) (hs : s' = { s with heap := h', toks := tk }) (hLm : ∀ h'' : Heap, h''.get? L = some oL → h''.Ns L m) (hst : St i h') (F : Fr h₀ C h' mC) (N : News h₀ C h' ([(L, oL), (D, listOf ys.toArray nD)] ++ led c))
      (sep : ∀ p ∈ [L, D, I], ∀ q ∈ led c, p ≠ q.1) (hJ : J i ys c) (hys : ys.length ≤ i) (hi : i ≤ n) (hk : k = n + 1 - i) : CInv h₀ C L D I m led J St s n k s'
section
variable {w : World} {A : Around} {E : Value → Shared → Prop} {s : Shared} {env : Env} {h₀ : Heap} {σ : Type} {m : Str → Option Value}

theorem compLoop_tests {elt target iter : Expr} {ifs : List Expr} {scope : Scope} {pos : Pos} {it acc : Value} {env : Env} {R : Result → Shared → Prop} (I : Nat → Shared → Prop)
    (turn : ∀ n s, I n s → wpAny (model Prog w) A (pyNext it) (fun r s₁ => match r with
      | none => R (.ok .next) s₁
      | some v => wpAny (model Prog w) A (letOwnedTupleGo target it v) (fun _ s₁ => wpAny (model Prog w) A (assign target env v) (fun _ s₂ =>
          wpAny (model Prog w) A (forIn ifs true fun c r => if r = true then do let ok ← isTrue c env (eval c env); pure (ForInStep.yield ok) else pure (ForInStep.yield r)) (fun ok s₃ =>
            if ok = true then wpAny (model Prog w) A (eval elt env) (fun x s₄ =>
              wpAny (model Prog w) A (call (.builtin "list.append") [acc, x]) (fun _ s₅ => ∃ m, m < n ∧ I m s₅) (notedBy (model Prog w) A env fun e s' => R (.error e) s') s₄) (notedBy (model Prog w) A env fun e s' => R (.error e) s') s₃
            else ∃ m, m < n ∧ I m s₃) (notedBy (model Prog w) A env fun e s' => R (.error e) s') s₂) (notedBy (model Prog w) A env fun e s' => R (.error e) s') s₁) (notedBy (model Prog w) A env fun e s' => R (.error e) s') s₁) (notedBy (model Prog w) A env fun e s' => R (.error e) s') s)
    (n : Nat) (h : I n s) :
    codeAny (model Prog w) A (.compLoop (.ListComp elt [⟨target, iter, ifs, 0⟩] scope pos) 0 it acc env) R s := by
  refine codeAny_loop rfl I (fun n s hI => ?_) n h
  show wpAny _ A ((compTurn (.ListComp elt [⟨target, iter, ifs, 0⟩] scope pos) 0 it acc env).onRaise (fun x => do noteFrame x env; theTreesLotGoes x)) _ _ s
  refine wpAny_noted ?_
  rw [compTurn_list]
  refine wpAny_bind (wpAny_standAt (wpAny_bind (wpAny_mono (turn n s hI) (fun r s₁ h₁ => ?_) fun _ _ h' => h')))
  cases r with
  | none => exact wpAny_pure h₁
  | some v =>
    refine wpAny_bind (wpAny_mono h₁ (fun _ s₁ h₁ => ?_) fun _ _ h' => h')
    refine wpAny_bind (wpAny_mono h₁ (fun _ s₂ h₂ => wpAny_bind (wpAny_mono h₂ (fun ok s₃ h₃ => ?_) fun _ _ h' => h')) fun _ _ h' => h')
    cases ok with
    | false => exact wpAny_pure ⟨rfl, h₃⟩
    | true =>
      exact wpAny_bind (wpAny_bind (wpAny_mono h₃ (fun x s₄ h₄ => wpAny_bind (wpAny_mono h₄ (fun _ s₅ h₅ => wpAny_pure (wpAny_pure ⟨rfl, h₅⟩)) fun _ _ h' => h')) fun _ _ h' => h'))

theorem comp_coreL {elt target iter : Expr} {ifs : List Expr} {scope : Scope} {cl : List (Str × Addr)} {pos : Pos} {I : Addr} {fp : List Addr} {n : Nat} {P : Nat → Value → Prop} {St : Nat → Heap → Prop} {RR : Value → Addr → Result → Shared → Prop}
    (led : σ → List (Addr × Obj)) (J : Nat → List Value → σ → Prop) (c₀ : σ)
    (W : Walks Prog w A I fp [I] n P St) (hsz : n ≤ sizeLine) (hcell : ∀ y ∈ scope.names, y.2 ≠ .cell) (hkind : scope.kind = .function)
    (hLf : env.locals ∉ fp) (hfp : ∀ b ∈ fp, b < s.heap.objs.size) (hI : h₀.get? I = none) (hI2 : ∀ p ∈ led c₀, p.1 ≠ I) (hst : St 0 s.heap) (F : Fr h₀ env.locals s.heap m) (N : News h₀ env.locals s.heap (led c₀)) (hJ : J 0 [] c₀)
    (hsrc : ∀ b ∈ fp, b ≠ I → (∃ o, h₀.get? b = some o) ∨ ∃ o, ∀ i ys c, J i ys c → (b, o) ∈ led c) (live : ∀ i h, St i h → ∃ oI, h.get? I = some oI)
    (ht : ∀ i v h, P i v → St (i + 1) h → ∀ (s' : Shared) (Q : Unit → Shared → Prop) (E' : Value → Shared → Prop), s'.heap = h → Q () s' → wpAny (model Prog w) A (letOwnedTupleGo target (.ref I) v) Q E' s')
    (turn : ∀ i v ys c (u : Str → Option Value) h tk C D nD oL oI E₂, i < n → P i v → ys.length ≤ i → J i ys c → (∀ p ∈ [(env.locals, oL), (I, oI), (D, listOf ys.toArray nD)], ∀ q ∈ led c, p.1 ≠ q.1) → (∀ b o, h₀.get? b = some o → b < C) →
      Fr h₀ C h u → News h₀ C h ([(env.locals, oL), (I, oI), (D, listOf ys.toArray nD)] ++ led c) → (∀ h' : Heap, h'.get? env.locals = some oL → h'.Ns env.locals m) → @Ne Nat env.locals I → @Ne Nat env.locals D →
      wpAny (model Prog w) A (assign target (compEnvC scope cl C env) v) (fun _ s₂ => wpAny (model Prog w) A (TestTree ifs (compEnvC scope cl C env)) (fun ok s₃ =>
        if ok = true then wpAny (model Prog w) A (eval elt (compEnvC scope cl C env)) (fun y s₄ => EltEndL h₀ env.locals m C (I, oI) (D, listOf ys.toArray nD) led (J (i + 1) (ys ++ [y])) { s with heap := h, toks := tk } s₄) E₂ s₃
        else EltEndL h₀ env.locals m C (I, oI) (D, listOf ys.toArray nD) led (J (i + 1) ys) { s with heap := h, toks := tk } s₃) E₂ s₂) E₂ { s with heap := h, toks := tk })
    (hRR : ∀ D C h' tk mC c ys nD, J n ys c → Fr h₀ env.locals h' m → News h₀ env.locals h' ((D, listOf ys.toArray nD) :: led c) → (∀ p ∈ led c, p.1 ≠ D) → h'.Ns C mC → C ≠ env.locals → C ≠ D → (∀ p ∈ led c, p.1 ≠ C) → h₀.get? C = none →
      RR (.ref D) C (.ok .next) { s with heap := h', toks := tk }) :
    wpAny (model Prog w) A (newList []) (fun acc s₃ => wpAny (model Prog w) A (newFunctionEnv scope env.globals cl [] env.qual none .none (some env)) (fun cenv s₄ =>
      codeAny (model Prog w) A (.compStart (.ListComp elt [⟨target, iter, ifs, 0⟩] scope pos) 0 (.ref I) acc { cenv with scope := relabel scope env }) (RR acc cenv.locals) s₄) E s₃) E s := by
  refine wpAny_newObj_type (wpAny_newFunctionEnv hcell (by intro y hy; simp at hy) (fun h₁ hns₁ hsb₁ => ?_) hkind)
  dsimp only at hns₁ hsb₁ ⊢
  generalize hH2 : s.heap.push { cls := .type "list", dict := none, data := .seq ([] : List Value).toArray } = H2 at hns₁ hsb₁ ⊢
  have hC : H2.objs.size = s.heap.objs.size + 1 := by rw [← hH2, Heap.size_push]
  have hDC : s.heap.objs.size ≠ H2.objs.size := by rw [hC]; exact Nat.ne_of_lt (Nat.lt_succ_self _)
  have below : ∀ b, b < s.heap.objs.size → b ≠ H2.objs.size ∧ b ≠ s.heap.objs.size := fun b hb => ⟨by rw [hC]; exact Nat.ne_of_lt (Nat.lt_succ_of_lt hb), Nat.ne_of_lt hb⟩
  have old : ∀ b o, s.heap.get? b = some o → h₁.get? b = some o := fun b o e => hsb₁.extBut b o (below b (Heap.lt_size e)).1 (Heap.get?_push_of_some _ (hH2 ▸ Heap.get?_push_of_some _ e))
  have hacc : h₁.get? s.heap.objs.size = some (listOf ([] : List Value).toArray 0) := hsb₁.extBut _ _ hDC (Heap.get?_push_of_some _ (hH2 ▸ Heap.get?_push_size _ rfl))
  have hst₁ : St 0 h₁ := W.frame _ _ _ hst fun b _ o e => old b o e
  refine hideG fun G0 hG0 => ?_
  obtain ⟨oL₀, es, ep, hoL, hLd, hLk, hLf'⟩ := id F.ns
  have hLm₀ : ∀ h' : Heap, h'.get? env.locals = some oL₀ → h'.Ns env.locals m := fun h' e => ⟨oL₀, es, ep, e, hLd, hLk, hLf'⟩
  have base_lt : ∀ b o, h₀.get? b = some o → b < s.heap.objs.size := fun b o e => Heap.lt_size (F.keep b o e)
  have nbase : ∀ a, s.heap.objs.size ≤ a → h₀.get? a = none := fun a ha => by
    cases e : h₀.get? a with
    | none => rfl
    | some o => exact absurd (base_lt a o e) (Nat.not_lt.mpr ha)
  have hCn : h₀.get? H2.objs.size = none := nbase _ (by rw [hC]; exact Nat.le_succ _)
  have hDn : h₀.get? s.heap.objs.size = none := nbase _ (Nat.le_refl _)
  have hLlt : env.locals < s.heap.objs.size := Heap.lt_size hoL
  have hLn : h₀.get? env.locals = none := by
    cases e : h₀.get? env.locals with
    | none => rfl
    | some o => exact absurd (Nat.lt_of_lt_of_le (Heap.lt_size e) F.above) (Nat.lt_irrefl _)
  have hIfp : I ∈ fp := W.sub I (.head _)
  have hIlt : I < s.heap.objs.size := hfp I hIfp
  have F₁ : Fr h₀ H2.objs.size h₁ (fun y => ([] : List (Str × Value)).reverse.lookup y) := ⟨hns₁, fun b o e => old b o (F.keep b o e), by rw [hC]; exact Nat.le_succ_of_le (Nat.le_trans F.above (Nat.le_of_lt hLlt))⟩
  have N₁ : News h₀ H2.objs.size h₁ ([(env.locals, oL₀), (s.heap.objs.size, listOf ([] : List Value).toArray 0)] ++ led c₀) := by
    intro p hp
    rcases List.mem_append.mp hp with hp | hp
    · rcases List.mem_cons.mp hp with rfl | hp
      · exact ⟨old _ _ hoL, (below _ hLlt).1, hLn⟩
      · rw [List.mem_singleton.mp hp]; exact ⟨hacc, hDC, hDn⟩
    · exact ⟨old _ _ (N p hp).1, (below _ (Heap.lt_size (N p hp).1)).1, (N p hp).2.2⟩
  have sep₁ : ∀ p ∈ [env.locals, s.heap.objs.size, I], ∀ q ∈ led c₀, p ≠ q.1 := by
    intro p hp q hq
    rcases List.mem_cons.mp hp with rfl | hp
    · exact fun e => (N q hq).2.1 e.symm
    · rcases List.mem_cons.mp hp with rfl | hp
      · exact fun e => absurd (Heap.lt_size (N q hq).1) (by rw [← e]; exact Nat.lt_irrefl _)
      · rw [List.mem_singleton.mp hp]; exact fun e => hI2 q hq e.symm
  have loop : ∀ s₃ : Shared, s₃ = { s with heap := h₁, toks := s.toks + ([] : List (Str × Value)).length } →
      codeAny (model Prog w) A (.compLoop (.ListComp elt [⟨target, iter, ifs, 0⟩] scope pos) 0 (.ref I) (.ref s.heap.objs.size) (compEnvC scope cl H2.objs.size env)) (RR (.ref s.heap.objs.size) H2.objs.size) s₃ := by
    rintro s₃ rfl
    refine compLoop_tests (CInv h₀ H2.objs.size env.locals s.heap.objs.size I m led J St s n) ?_ (n + 1) ⟨h₁, _, _, [], c₀, 0, 0, oL₀, rfl, hLm₀, hst₁, F₁, N₁, sep₁, hJ, Nat.le_refl _, Nat.zero_le _, rfl⟩
    rintro k s' ⟨h', tk, mC, ys, c, i, nD, oL, rfl, hLm, hst', F', N', sep', hJ', hys, hi, rfl⟩
    have hNL := N' (env.locals, oL) (List.mem_append_left _ (.head _))
    have hND := N' (s.heap.objs.size, listOf ys.toArray nD) (List.mem_append_left _ (.tail _ (.head _)))
    by_cases hlt : i < n
    · refine W.item i _ _ _ hlt hst' fun v h₂ tk₂ hP hst₂ hk₂ => ?_
      have offI : ∀ b, b ≠ I → ∀ o, h'.get? b = some o → h₂.get? b = some o := fun b hb o e => hk₂ b o (fun hm => hb (List.mem_singleton.mp hm)) e
      have hIC : I ≠ H2.objs.size := (below I hIlt).1
      have hID : s.heap.objs.size ≠ I := Ne.symm (below I hIlt).2
      have hIL : env.locals ≠ I := fun e => hLf (e ▸ hIfp)
      have F₂ : Fr h₀ H2.objs.size h₂ mC := by
        refine ⟨F'.ns.at' fun o e => offI _ (Ne.symm hIC) o e, fun b o e => offI b (fun q => ?_) o (F'.keep b o e), F'.above⟩
        rw [q, hI] at e; cases e
      obtain ⟨oI, hoI⟩ := live _ _ hst₂
      have sep₂ : ∀ p ∈ [(env.locals, oL), (I, oI), (s.heap.objs.size, listOf ys.toArray nD)], ∀ q ∈ led c, p.1 ≠ q.1 := by
        intro p hp q hq
        rcases List.mem_cons.mp hp with rfl | hp
        · exact sep' _ (.head _) q hq
        · rcases List.mem_cons.mp hp with rfl | hp
          · exact sep' _ (.tail _ (.tail _ (.head _))) q hq
          · rw [List.mem_singleton.mp hp]; exact sep' _ (.tail _ (.head _)) q hq
      have N₂ : News h₀ H2.objs.size h₂ ([(env.locals, oL), (I, oI), (s.heap.objs.size, listOf ys.toArray nD)] ++ led c) := by
        intro p hp
        rcases List.mem_append.mp hp with hp | hp
        · rcases List.mem_cons.mp hp with rfl | hp
          · exact ⟨offI _ hIL _ hNL.1, hNL.2⟩
          · rcases List.mem_cons.mp hp with rfl | hp
            · exact ⟨hoI, hIC, hI⟩
            · rw [List.mem_singleton.mp hp]; exact ⟨offI _ hID _ hND.1, hND.2⟩
        · have z := N' p (List.mem_append_right _ hp)
          exact ⟨offI _ (fun e => sep' I (.tail _ (.tail _ (.head _))) p hp e.symm) _ z.1, z.2⟩
      -- the state of the iterator stands through what the turn does
      have stay : ∀ h₅ ys' c', Fr h₀ H2.objs.size h₅ ys' → h₅.get? I = some oI → (∀ q ∈ led c', h₅.get? q.1 = some q.2) → (∃ i' ys'', J i' ys'' c') → St (i + 1) h₅ := by
        intro h₅ ys' c' F₅ hI₅ hl₅ ⟨i', ys'', hJ₅⟩
        refine W.frame _ _ _ hst₂ fun b hb o e => ?_
        by_cases hbI : b = I
        · rw [hbI] at e ⊢; rw [hoI] at e; rw [hI₅, e]
        · rcases hsrc b hb hbI with ⟨ob, hob⟩ | ⟨ob, hob⟩
          · have h1 := F₂.keep b ob hob
            rw [e] at h1
            rw [Option.some.inj h1]
            exact F₅.keep b ob hob
          · have h1 := (N₂ _ (List.mem_append_right _ (hob i ys c hJ'))).1
            rw [e] at h1
            rw [Option.some.inj h1]
            exact hl₅ _ (hob i' ys'' c' hJ₅)
      refine ht i v h₂ hP hst₂ _ _ _ rfl (wpAny_mono (turn i v ys c mC h₂ tk₂ H2.objs.size s.heap.objs.size nD oL oI _ hlt hP hys hJ' sep₂ (fun b o e => by rw [hC]; exact Nat.lt_succ_of_lt (base_lt b o e)) F₂ N₂ hLm hIL (Nat.ne_of_lt hLlt)) (fun _ s₂ h => wpAny_mono h (fun ok s₃ h => ?_) fun _ _ e => e) fun _ _ e => e)
      cases ok with
      | false =>
        simp only [Bool.false_eq_true, if_false] at h ⊢
        obtain ⟨c', h₅, tk₅, m₅, oL', rfl, hLm', F₅, N₅, off₅, hJ₅⟩ := h
        refine ⟨n + 1 - (i + 1), by omega, ⟨h₅, tk₅, m₅, ys, c', i + 1, nD, oL', rfl, hLm', ?_, F₅, fun p hp => N₅ p ?_, fun p hp q hq => ?_, hJ₅, by omega, hlt, rfl⟩⟩
        · exact stay h₅ m₅ c' F₅ (N₅ (I, oI) (List.mem_append_left _ (.tail _ (.head _)))).1 (fun q hq => (N₅ q (List.mem_append_right _ hq)).1) ⟨_, _, hJ₅⟩
        · rcases List.mem_append.mp hp with hp | hp
          · rcases List.mem_cons.mp hp with rfl | hp
            · exact List.mem_append_left _ (.head _)
            · rw [List.mem_singleton.mp hp]; exact List.mem_append_left _ (.tail _ (.tail _ (.head _)))
          · exact List.mem_append_right _ hp
        · rcases List.mem_cons.mp hp with rfl | hp
          · exact off₅ (env.locals, oL') (.head _) q hq
          · rcases List.mem_cons.mp hp with rfl | hp
            · exact off₅ (s.heap.objs.size, listOf ys.toArray nD) (.tail _ (.tail _ (.head _))) q hq
            · rw [List.mem_singleton.mp hp]; exact off₅ (I, oI) (.tail _ (.head _)) q hq
      | true =>
        simp only [if_true] at h ⊢
        refine wpAny_mono h (fun y s₄ h => ?_) fun _ _ e => e
        obtain ⟨c', h₅, tk₅, m₅, oL', rfl, hLm', F₅, N₅, off₅, hJ₅⟩ := h
        have N₅' : News h₀ H2.objs.size h₅ ((s.heap.objs.size, listOf ys.toArray nD) :: ((env.locals, oL') :: (I, oI) :: led c')) := fun p hp => N₅ p (by
          rcases List.mem_cons.mp hp with rfl | hp
          · exact List.mem_append_left _ (.tail _ (.tail _ (.head _)))
          · rcases List.mem_cons.mp hp with rfl | hp
            · exact List.mem_append_left _ (.head _)
            · rcases List.mem_cons.mp hp with rfl | hp
              · exact List.mem_append_left _ (.tail _ (.head _))
              · exact List.mem_append_right _ hp)
        refine append_K (s := { s with heap := h₅, toks := tk₅ }) (its := ys.toArray) (n := nD) (news' := (s.heap.objs.size, listOf (ys.toArray.push y) (nD + 1)) :: ((env.locals, oL') :: (I, oI) :: led c')) F₅ N₅' (.head ?_) (fun h₆ F₆ N₆ => ?_) (hsz := by rw [List.size_toArray]; omega)
        · intro p hp
          rcases List.mem_cons.mp hp with rfl | hp
          · exact Nat.ne_of_lt hLlt
          · rcases List.mem_cons.mp hp with rfl | hp
            · exact Nat.ne_of_lt hIlt
            · exact fun e => off₅ (s.heap.objs.size, listOf ys.toArray nD) (.tail _ (.tail _ (.head _))) p hp e.symm
        · rw [List.push_toArray] at N₆
          refine ⟨n + 1 - (i + 1), by omega, ⟨h₆, tk₅, m₅, ys ++ [y], c', i + 1, nD + 1, oL', rfl, hLm', ?_, F₆, fun p hp => N₆ p ?_, fun p hp q hq => ?_, hJ₅, by rw [List.length_append]; show ys.length + 1 ≤ i + 1; omega, hlt, rfl⟩⟩
          · exact stay h₆ m₅ c' F₆ (N₆ (I, oI) (.tail _ (.tail _ (.head _)))).1 (fun q hq => (N₆ q (.tail _ (.tail _ (.tail _ hq)))).1) ⟨_, _, hJ₅⟩
          · rcases List.mem_append.mp hp with hp | hp
            · rcases List.mem_cons.mp hp with rfl | hp
              · exact .tail _ (.head _)
              · rw [List.mem_singleton.mp hp]; exact .head _
            · exact .tail _ (.tail _ (.tail _ hp))
          · rcases List.mem_cons.mp hp with rfl | hp
            · exact off₅ (env.locals, oL') (.head _) q hq
            · rcases List.mem_cons.mp hp with rfl | hp
              · exact off₅ (s.heap.objs.size, listOf ys.toArray nD) (.tail _ (.tail _ (.head _))) q hq
              · rw [List.mem_singleton.mp hp]; exact off₅ (I, oI) (.tail _ (.head _)) q hq
    · have hin : i = n := by omega
      subst hin
      refine W.done _ _ _ hst' fun h₂ tk₂ hk₂ => ?_
      have offI : ∀ b, b ≠ I → ∀ o, h'.get? b = some o → h₂.get? b = some o := fun b hb o e => hk₂ b o (fun hm => hb (List.mem_singleton.mp hm)) e
      have hIC : I ≠ H2.objs.size := (below I hIlt).1
      have hID : s.heap.objs.size ≠ I := Ne.symm (below I hIlt).2
      have hIL : env.locals ≠ I := fun e => hLf (e ▸ hIfp)
      refine hRR s.heap.objs.size H2.objs.size h₂ tk₂ mC c ys nD hJ' ⟨hLm _ (offI _ hIL _ hNL.1), fun b o e => offI b (fun q => ?_) o (F'.keep b o e), F.above⟩ (fun p hp => ?_) (fun p hp e => sep' _ (.tail _ (.head _)) p hp e.symm) (F'.ns.at' fun o e => offI _ (Ne.symm hIC) o e) (Ne.symm (below _ hLlt).1) (Ne.symm hDC)
        (fun p hp => (N' p (List.mem_append_right _ hp)).2.1) hCn
      · rw [q, hI] at e; cases e
      · rcases List.mem_cons.mp hp with rfl | hp
        · exact ⟨offI _ hID _ hND.1, Ne.symm (Nat.ne_of_lt hLlt), hDn⟩
        · have z := N' p (List.mem_append_right _ hp)
          exact ⟨offI _ (fun e => sep' I (.tail _ (.tail _ (.head _))) p hp e.symm) _ z.1, fun e => sep' _ (.head _) p hp e.symm, z.2.2⟩
  refine hG0 ?_
  exact codeAny_compStart_list (loop _ rfl) (W.self 0 _ _ _ hst₁ (loop _ rfl))
theorem comp_core {elt target iter : Expr} {ifs : List Expr} {scope : Scope} {cl : List (Str × Addr)} {pos : Pos} {I : Addr} {fp : List Addr} {n : Nat} {P : Nat → Value → Prop} {St : Nat → Heap → Prop} {RR : Value → Addr → Result → Shared → Prop}
    (led : σ → List (Addr × Obj)) (J : Nat → List Value → σ → Prop) (c₀ : σ)
    (W : Walks Prog w A I fp [I] n P St) (hsz : n ≤ sizeLine) (hcell : ∀ y ∈ scope.names, y.2 ≠ .cell) (hkind : scope.kind = .function)
    (hLf : env.locals ∉ fp) (hfp : ∀ b ∈ fp, b < s.heap.objs.size) (hI : h₀.get? I = none) (hI2 : ∀ p ∈ led c₀, p.1 ≠ I) (hst : St 0 s.heap) (F : Fr h₀ env.locals s.heap m) (N : News h₀ env.locals s.heap (led c₀)) (hJ : J 0 [] c₀)
    (hsrc : ∀ b ∈ fp, b ≠ I → (∃ o, h₀.get? b = some o) ∨ ∃ o, ∀ i ys c, J i ys c → (b, o) ∈ led c) (live : ∀ i h, St i h → ∃ oI, h.get? I = some oI)
    (ht : ∀ i v h, P i v → St (i + 1) h → ∀ (s' : Shared) (Q : Unit → Shared → Prop) (E' : Value → Shared → Prop), s'.heap = h → Q () s' → wpAny (model Prog w) A (letOwnedTupleGo target (.ref I) v) Q E' s')
    (turn : ∀ i v ys c (u : Str → Option Value) h tk C D nD oL oI E₂, i < n → P i v → ys.length ≤ i → J i ys c → (∀ p ∈ [(env.locals, oL), (I, oI), (D, listOf ys.toArray nD)], ∀ q ∈ led c, p.1 ≠ q.1) → (∀ b o, h₀.get? b = some o → b < C) →
      Fr h₀ C h u → News h₀ C h ([(env.locals, oL), (I, oI), (D, listOf ys.toArray nD)] ++ led c) → (∀ h' : Heap, h'.get? env.locals = some oL → h'.Ns env.locals m) →
      wpAny (model Prog w) A (assign target (compEnvC scope cl C env) v) (fun _ s₂ => wpAny (model Prog w) A (TestTree ifs (compEnvC scope cl C env)) (fun ok s₃ =>
        if ok = true then wpAny (model Prog w) A (eval elt (compEnvC scope cl C env)) (fun y s₄ => EltEnd h₀ C [(env.locals, oL), (I, oI), (D, listOf ys.toArray nD)] led (J (i + 1) (ys ++ [y])) { s with heap := h, toks := tk } s₄) E₂ s₃
        else EltEnd h₀ C [(env.locals, oL), (I, oI), (D, listOf ys.toArray nD)] led (J (i + 1) ys) { s with heap := h, toks := tk } s₃) E₂ s₂) E₂ { s with heap := h, toks := tk })
    (hRR : ∀ D C h' tk mC c ys nD, J n ys c → Fr h₀ env.locals h' m → News h₀ env.locals h' ((D, listOf ys.toArray nD) :: led c) → (∀ p ∈ led c, p.1 ≠ D) → h'.Ns C mC → C ≠ env.locals → C ≠ D → (∀ p ∈ led c, p.1 ≠ C) → h₀.get? C = none →
      RR (.ref D) C (.ok .next) { s with heap := h', toks := tk }) :
    wpAny (model Prog w) A (newList []) (fun acc s₃ => wpAny (model Prog w) A (newFunctionEnv scope env.globals cl [] env.qual none .none (some env)) (fun cenv s₄ =>
      codeAny (model Prog w) A (.compStart (.ListComp elt [⟨target, iter, ifs, 0⟩] scope pos) 0 (.ref I) acc { cenv with scope := relabel scope env }) (RR acc cenv.locals) s₄) E s₃) E s := by
  refine comp_coreL led J c₀ W hsz hcell hkind hLf hfp hI hI2 hst F N hJ hsrc live ht (fun i v ys c u h tk C D nD oL oI E₂ h1 h2 h3 h4 h5 h6 h7 h8 hL _ _ => ?_) hRR
  have cv : ∀ {J' : σ → Prop} {s s' : Shared}, EltEnd h₀ C [(env.locals, oL), (I, oI), (D, listOf ys.toArray nD)] led J' s s' → EltEndL h₀ env.locals m C (I, oI) (D, listOf ys.toArray nD) led J' s s' := by
    rintro J' s s' ⟨c', h', tk', m', e, F', N', o', j⟩
    exact ⟨c', h', tk', m', oL, e, hL, F', N', o', j⟩
  refine wpAny_mono (turn i v ys c u h tk C D nD oL oI E₂ h1 h2 h3 h4 h5 h6 h7 h8 hL) (fun _ s₂ x => wpAny_mono x (fun ok s₃ y => ?_) fun _ _ e => e) fun _ _ e => e
  cases ok with
  | false =>
    simp only [Bool.false_eq_true, if_false] at y ⊢
    exact cv y
  | true =>
    simp only [if_true] at y ⊢
    exact wpAny_mono y (fun _ _ z => cv z) fun _ _ e => e
end
-- CompUse
theorem top_CompUse : True := by
  w_top off
  trivial
def CompGo (w : World) (A : Around) (env : Env) (elt target iter : Expr) (ifs : List Expr) (scope : Scope) (cl : List (Str × Addr)) (pos : Pos) (RR : Value → Addr → Result → Shared → Prop) (E : Value → Shared → Prop) (it : Value) (s₂ : Shared) : Prop :=
  ∃ I, it = .ref I ∧ wpAny (model Prog w) A (newList []) (fun acc s₃ => wpAny (model Prog w) A (newFunctionEnv scope env.globals cl [] env.qual none .none (some env)) (fun cenv s₄ =>
      codeAny (model Prog w) A (.compStart (.ListComp elt [⟨target, iter, ifs, 0⟩] scope pos) 0 (.ref I) acc { cenv with scope := relabel scope env }) (RR acc cenv.locals) s₄) E s₃) E s₂

section
variable {w : World} {A : Around} {E : Value → Shared → Prop} {s : Shared} {env : Env} {h₀ : Heap} {σ : Type} {m : Str → Option Value} {elt target iter : Expr} {ifs : List Expr} {scope : Scope} {cl : List (Str × Addr)} {pos : Pos}

def EvalPost (w : World) (A : Around) (E : Value → Shared → Prop) (Q : Value → Shared → Prop) (acc : Value) (C : Addr) (r : Result) (s' : Shared) : Prop := compPost (model Prog w) A E none Q acc C r s'
def AssignPost (w : World) (A : Around) (E : Value → Shared → Prop) (y : Str) (py : Pos) (env : Env) (Q : Flow → Shared → Prop) (acc : Value) (C : Addr) (r : Result) (s' : Shared) : Prop := compPost (model Prog w) A E (some (assign (.Name y py) env)) (fun _ s' => Q .next s') acc C r s'

theorem listComp_go {Q : Value → Shared → Prop} (hclos : closureFor scope env = pure cl) (hkind : scope.kind = .function) (hnames : ∀ y ∈ scope.names, y.2 = .local → scope.names.lookup y.1 = some .local)
    (hs : ∀ x, foldedSetIterable iter env x = pure x)
    (h : wpAny (model Prog w) A (eval iter env) (fun xv s₁ => wpAny (model Prog w) A (pyIter xv) (fun it s₂ => CompGo w A env elt target iter ifs scope cl pos (EvalPost w A E Q) E it s₂) E s₁) E s) :
    wpAny (model Prog w) A (eval (.ListComp elt [⟨target, iter, ifs, 0⟩] scope pos) env) Q E s := by
  rw [eval_ListComp]
  refine wpAny_comprehension_free (use := none) rfl hs hclos hkind hnames (wpAny_mono h (fun xv s₁ h₁ => wpAny_mono h₁ (fun it s₂ h₂ => ?_) fun _ _ e => e) fun _ _ e => e)
  obtain ⟨I, rfl, h₂⟩ := h₂
  exact h₂

theorem assignComp_go {y : Str} {py spos : Pos} {Q : Flow → Shared → Prop} (hsw : swapsWith (.ListComp elt [⟨target, iter, ifs, 0⟩] scope pos) (some (.Name y py)) spos.line env = pure true)
    (hclos : closureFor scope env = pure cl) (hkind : scope.kind = .function) (hnames : ∀ y ∈ scope.names, y.2 = .local → scope.names.lookup y.1 = some .local)
    (hs : ∀ x, foldedSetIterable iter env x = pure x)
    (h : wpAny (model Prog w) A (eval iter env) (fun xv s₁ => wpAny (model Prog w) A (pyIter xv) (fun it s₂ => CompGo w A env elt target iter ifs scope cl pos (AssignPost w A E y py env Q) E it s₂) E s₁) E s) :
    wpAny (model Prog w) A (exec (.Assign [.Name y py] (.ListComp elt [⟨target, iter, ifs, 0⟩] scope pos) spos) env) Q E s := by
  rw [exec_Assign_Name_used _ _ _ _ hsw]
  refine wpAny_bind (wpAny_standAt (wpAny_bind ?_))
  show wpAny _ A (do let _ ← comprehension (.ListComp elt [⟨target, iter, ifs, 0⟩] scope pos) scope env _ (newList []) false (eval iter env) (some (assign (.Name y py) env))) _ _ s
  refine wpAny_bind (wpAny_mono (wpAny_comprehension_free (use := some (assign (.Name y py) env)) (Q := fun _ s' => Q .next s') rfl hs hclos hkind hnames
    (wpAny_mono h (fun xv s₁ h₁ => wpAny_mono h₁ (fun it s₂ h₂ => ?_) fun _ _ e => e) fun _ _ e => e)) (fun _ s' hq => wpAny_pure (wpAny_pure hq)) fun _ _ e => e)
  obtain ⟨I, rfl, h₂⟩ := h₂
  exact h₂

/-- what the block hands on, where its list is a value -/
theorem rr_eval {Q : Value → Shared → Prop} {led : σ → List (Addr × Obj)} {J : List Value → σ → Prop}
    (done : ∀ D c h' tk ys nD, J ys c → Fr h₀ env.locals h' m → News h₀ env.locals h' ((D, listOf ys.toArray nD) :: led c) → (∀ p ∈ led c, p.1 ≠ D) → Q (.ref D) { s with heap := h', toks := tk }) :
    ∀ D C h' tk mC c ys nD, J ys c → Fr h₀ env.locals h' m → News h₀ env.locals h' ((D, listOf ys.toArray nD) :: led c) → (∀ p ∈ led c, p.1 ≠ D) → h'.Ns C mC → C ≠ env.locals → C ≠ D → (∀ p ∈ led c, p.1 ≠ C) → h₀.get? C = none →
      EvalPost w A E Q (.ref D) C (.ok .next) { s with heap := h', toks := tk } := by
  intro D C h' tk mC c ys nD hJ F N hD hC hCL hCD hled hCn
  refine ⟨mC, hC, fun h'' hs => ?_⟩
  refine done D c h'' tk ys nD hJ (F.change hs hCL hCn) (fun p hp => ?_) hD
  refine ⟨(hs.2 p.1 ?_).trans (N p hp).1, (N p hp).2⟩
  rcases List.mem_cons.mp hp with rfl | hp
  · exact Ne.symm hCD
  · exact hled p hp

theorem rr_assign {y : Str} {py : Pos} {Q : Flow → Shared → Prop} {led : σ → List (Addr × Obj)} {J : List Value → σ → Prop} (hy : env.kindOf y = some .local) (hp : (env.scope.kind == .class || (env.scope.kind == .module && env.locals != env.globals)) = false)
    (done : ∀ D c h' tk ys nD, J ys c → Fr h₀ env.locals h' (fun z => if z = y then some (.ref D) else m z) → News h₀ env.locals h' ((D, listOf ys.toArray nD) :: led c) → (∀ p ∈ led c, p.1 ≠ D) → Q .next { s with heap := h', toks := tk }) :
    ∀ D C h' tk mC c ys nD, J ys c → Fr h₀ env.locals h' m → News h₀ env.locals h' ((D, listOf ys.toArray nD) :: led c) → (∀ p ∈ led c, p.1 ≠ D) → h'.Ns C mC → C ≠ env.locals → C ≠ D → (∀ p ∈ led c, p.1 ≠ C) → h₀.get? C = none →
      AssignPost w A E y py env Q (.ref D) C (.ok .next) { s with heap := h', toks := tk } := by
  intro D C h' tk mC c ys nD hJ F N hD hC hCL hCD hled hCn
  show wpAny _ A (assign (.Name y py) env (.ref D)) _ _ _
  refine wpAny_assign_Name (wpAny_storeName_local hy F.ns (fun h₂ hn₂ hs₂ => ?_) hp)
  refine ⟨mC, hC.sameBut hs₂ hCL, fun h'' hs => ?_⟩
  have N₂ := N.set hs₂
  refine done D c h'' _ ys nD hJ ((F.set hn₂ hs₂).change hs hCL hCn) (fun p hp => ?_) hD
  refine ⟨(hs.2 p.1 ?_).trans (N₂ p hp).1, (N₂ p hp).2⟩
  rcases List.mem_cons.mp hp with rfl | hp
  · exact Ne.symm hCD
  · exact hled p hp

/-- the turn of a block whose target is one name -/
theorem turn_name {x : Str} {px : Pos} {C : Addr} {v : Value} {u : Str → Option Value} {fx : List (Addr × Obj)} {led : List (Addr × Obj)} {Q : Unit → Shared → Prop} (hx : scope.names.lookup x = some .local) (hkind : scope.kind = .function)
    (F : Fr h₀ C s.heap u) (N : News h₀ C s.heap (fx ++ led))
    (h : ∀ h' tk, Fr h₀ C h' (fun y => if y = x then some v else u y) → News h₀ C h' (fx ++ led) → Q () { s with heap := h', toks := tk }) :
    wpAny (model Prog w) A (assign (.Name x px) (compEnvC scope cl C env) v) Q E s := by
  refine wpAny_assign_Name (wpAny_storeName_local (lookup_relabel_local hx) F.ns (fun h₂ hn₂ hs₂ => ?_) (by simp [compEnvC, relabel, hkind]))
  exact h h₂ _ (F.set hn₂ hs₂) (N.set hs₂)

theorem comp_list {l : Addr} {vs : List Value} {RR : Value → Addr → Result → Shared → Prop} (led : σ → List (Addr × Obj)) (J : Nat → List Value → σ → Prop) (c₀ : σ)
    (hh : A.handled = none) (hl : h₀.IsList l vs.toArray ∨ ∃ o, o.cls = .type "list" ∧ (∃ n, o.data = .seq vs.toArray n) ∧ ∀ i ys c, J i ys c → (l, o) ∈ led c) (hsz : vs.length ≤ sizeLine) (hcell : ∀ y ∈ scope.names, y.2 ≠ .cell) (hkind : scope.kind = .function)
    (F : Fr h₀ env.locals s.heap m) (N : News h₀ env.locals s.heap (led c₀)) (hJ : J 0 [] c₀)
    (ht : (∀ I v, letOwnedTupleGo target (.ref I) v = pure ()) ∨ (∃ elts x p, target = .Tuple elts x p) ∧ ∀ v ∈ vs, ∃ T, v = .ref T)
    (turn : ∀ i v ys c (u : Str → Option Value) h tk C D I nD oL oI E₂, vs[i]? = some v → ys.length ≤ i → J i ys c → (∀ p ∈ [(env.locals, oL), (I, oI), (D, listOf ys.toArray nD)], ∀ q ∈ led c, p.1 ≠ q.1) → (∀ b o, h₀.get? b = some o → b < C) →
      Fr h₀ C h u → News h₀ C h ([(env.locals, oL), (I, oI), (D, listOf ys.toArray nD)] ++ led c) → (∀ h' : Heap, h'.get? env.locals = some oL → h'.Ns env.locals m) →
      wpAny (model Prog w) A (assign target (compEnvC scope cl C env) v) (fun _ s₂ => wpAny (model Prog w) A (TestTree ifs (compEnvC scope cl C env)) (fun ok s₃ =>
        if ok = true then wpAny (model Prog w) A (eval elt (compEnvC scope cl C env)) (fun y s₄ => EltEnd h₀ C [(env.locals, oL), (I, oI), (D, listOf ys.toArray nD)] led (J (i + 1) (ys ++ [y])) { s with heap := h, toks := tk } s₄) E₂ s₃
        else EltEnd h₀ C [(env.locals, oL), (I, oI), (D, listOf ys.toArray nD)] led (J (i + 1) ys) { s with heap := h, toks := tk } s₃) E₂ s₂) E₂ { s with heap := h, toks := tk })
    (hRR : ∀ D C h' tk mC c ys nD, J vs.length ys c → Fr h₀ env.locals h' m → News h₀ env.locals h' ((D, listOf ys.toArray nD) :: led c) → (∀ p ∈ led c, p.1 ≠ D) → h'.Ns C mC → C ≠ env.locals → C ≠ D → (∀ p ∈ led c, p.1 ≠ C) → h₀.get? C = none →
      RR (.ref D) C (.ok .next) { s with heap := h', toks := tk }) :
    wpAny (model Prog w) A (pyIter (.ref l)) (fun it s₂ => CompGo w A env elt target iter ifs scope cl pos RR E it s₂) E s := by
  have hls : s.heap.IsList l vs.toArray := by
    rcases hl with hl | ⟨o, h1, h2, h3⟩
    · exact hl.at fun o e => F.keep l o e
    · exact ⟨o, (N _ (h3 0 [] c₀ hJ)).1, h1, h2⟩
  obtain ⟨ol, hol, _⟩ := id hls
  have hlt : l < s.heap.objs.size := Heap.lt_size hol
  have hne : l ≠ s.heap.objs.size := Nat.ne_of_lt hlt
  have hlL : env.locals ≠ l := by
    rcases hl with ⟨o, ho, _⟩ | ⟨o, _, _, h3⟩
    · exact fun e => Nat.lt_irrefl _ (Nat.lt_of_lt_of_le (Heap.lt_size ho) (e ▸ F.above))
    · exact fun e => (N _ (h3 0 [] c₀ hJ)).2.1 e.symm
  refine wpAny_pyIter_list hls ⟨_, rfl, ?_⟩
  have W := Walks.list (prog := Prog) (w := w) hh s.heap.objs.size l hne vs.toArray
  rw [List.size_toArray] at W
  refine comp_core (s := { s with heap := _ }) led J c₀ W hsz hcell hkind ?_ ?_ (next_is_new F) (fun p hp => Nat.ne_of_lt (Heap.lt_size (N p hp).1)) ⟨⟨_, Heap.get?_push_size _ rfl, rfl, rfl⟩, hls.at fun o e => Heap.get?_push_of_some _ e⟩ (F.push _) (fun p hp => ⟨Heap.get?_push_of_some _ (N p hp).1, (N p hp).2⟩) hJ ?_ ?_ ?htt ?_ hRR
  · intro hm
    rcases List.mem_cons.mp hm with e | hm
    · exact absurd F.ns.lt (e ▸ Nat.lt_irrefl _)
    · exact hlL (List.mem_singleton.mp hm)
  · intro b hb
    show b < (s.heap.push _).objs.size
    rw [Heap.size_push]
    rcases List.mem_cons.mp hb with e | hb
    · rw [e]; exact Nat.lt_succ_self _
    · rw [List.mem_singleton.mp hb]; exact Nat.lt_succ_of_lt hlt
  · intro b hb hbI
    rcases List.mem_cons.mp hb with e | hb
    · exact absurd e hbI
    · rw [List.mem_singleton.mp hb]
      rcases hl with ⟨o, ho, _⟩ | ⟨o, _, _, h3⟩
      · exact .inl ⟨o, ho⟩
      · exact .inr ⟨o, h3⟩
  · rintro i h ⟨⟨o, ho, _⟩, _⟩
    exact ⟨o, ho⟩
  case htt =>
    intro i v h hP hst s' Q' E' hs' q
    rcases ht with ht | ⟨⟨elts, x, p, rfl⟩, hv⟩
    · exact wpAny_of_eq (ht _ v) q
    · obtain ⟨T, rfl⟩ := hv v (by simpa using List.mem_of_getElem? (by simpa using hP))
      exact wpAny_letOwnedTupleGo_listiter (hs' ▸ hst.1) q
  · intro i v ys c u h tk C D nD oL oI E₂ hi hP
    exact turn i v ys c u h tk C D _ nD oL oI E₂ (by simpa using hP)

theorem comp_tuple {l : Addr} {vs : List Value} {RR : Value → Addr → Result → Shared → Prop} (led : σ → List (Addr × Obj)) (J : Nat → List Value → σ → Prop) (c₀ : σ)
    (hh : A.handled = none) (hl : h₀.IsTuple l vs.toArray ∨ ∃ o, o.cls = .type "tuple" ∧ (∃ n, o.data = .seq vs.toArray n) ∧ ∀ i ys c, J i ys c → (l, o) ∈ led c) (hsz : vs.length ≤ sizeLine) (hcell : ∀ y ∈ scope.names, y.2 ≠ .cell) (hkind : scope.kind = .function)
    (F : Fr h₀ env.locals s.heap m) (N : News h₀ env.locals s.heap (led c₀)) (hJ : J 0 [] c₀)
    (ht : ∀ I v, letOwnedTupleGo target (.ref I) v = pure ())
    (turn : ∀ i v ys c (u : Str → Option Value) h tk C D I nD oL oI E₂, vs[i]? = some v → ys.length ≤ i → J i ys c → (∀ p ∈ [(env.locals, oL), (I, oI), (D, listOf ys.toArray nD)], ∀ q ∈ led c, p.1 ≠ q.1) → (∀ b o, h₀.get? b = some o → b < C) →
      Fr h₀ C h u → News h₀ C h ([(env.locals, oL), (I, oI), (D, listOf ys.toArray nD)] ++ led c) → (∀ h' : Heap, h'.get? env.locals = some oL → h'.Ns env.locals m) →
      wpAny (model Prog w) A (assign target (compEnvC scope cl C env) v) (fun _ s₂ => wpAny (model Prog w) A (TestTree ifs (compEnvC scope cl C env)) (fun ok s₃ =>
        if ok = true then wpAny (model Prog w) A (eval elt (compEnvC scope cl C env)) (fun y s₄ => EltEnd h₀ C [(env.locals, oL), (I, oI), (D, listOf ys.toArray nD)] led (J (i + 1) (ys ++ [y])) { s with heap := h, toks := tk } s₄) E₂ s₃
        else EltEnd h₀ C [(env.locals, oL), (I, oI), (D, listOf ys.toArray nD)] led (J (i + 1) ys) { s with heap := h, toks := tk } s₃) E₂ s₂) E₂ { s with heap := h, toks := tk })
    (hRR : ∀ D C h' tk mC c ys nD, J vs.length ys c → Fr h₀ env.locals h' m → News h₀ env.locals h' ((D, listOf ys.toArray nD) :: led c) → (∀ p ∈ led c, p.1 ≠ D) → h'.Ns C mC → C ≠ env.locals → C ≠ D → (∀ p ∈ led c, p.1 ≠ C) → h₀.get? C = none →
      RR (.ref D) C (.ok .next) { s with heap := h', toks := tk }) :
    wpAny (model Prog w) A (pyIter (.ref l)) (fun it s₂ => CompGo w A env elt target iter ifs scope cl pos RR E it s₂) E s := by
  have hls : s.heap.IsTuple l vs.toArray := by
    rcases hl with ⟨o, ho, r⟩ | ⟨o, h1, h2, h3⟩
    · exact ⟨o, F.keep l o ho, r⟩
    · exact ⟨o, (N _ (h3 0 [] c₀ hJ)).1, h1, h2⟩
  obtain ⟨ol, hol, hcl, hdl⟩ := id hls
  have hlt : l < s.heap.objs.size := Heap.lt_size hol
  have hne : l ≠ s.heap.objs.size := Nat.ne_of_lt hlt
  have hlL : env.locals ≠ l := by
    rcases hl with ⟨o, ho, _⟩ | ⟨o, _, _, h3⟩
    · exact fun e => Nat.lt_irrefl _ (Nat.lt_of_lt_of_le (Heap.lt_size ho) (e ▸ F.above))
    · exact fun e => (N _ (h3 0 [] c₀ hJ)).2.1 e.symm
  refine wpAny_pyIter_tuple hls ⟨_, rfl, ?_⟩
  have W := Walks.tuple (prog := Prog) (w := w) hh s.heap.objs.size l hne vs.toArray
  rw [List.size_toArray] at W
  refine comp_core (s := { s with heap := _ }) led J c₀ W hsz hcell hkind ?_ ?_ (next_is_new F) (fun p hp => Nat.ne_of_lt (Heap.lt_size (N p hp).1)) ⟨⟨_, Heap.get?_push_size _ rfl, rfl, rfl⟩, ⟨ol, Heap.get?_push_of_some _ hol, hcl, hdl⟩⟩ (F.push _) (fun p hp => ⟨Heap.get?_push_of_some _ (N p hp).1, (N p hp).2⟩) hJ ?_ ?_ (fun i v h hP hst s' Q E' _ q => wpAny_of_eq (ht _ v) q) ?_ hRR
  · intro hm
    rcases List.mem_cons.mp hm with e | hm
    · exact absurd F.ns.lt (e ▸ Nat.lt_irrefl _)
    · exact hlL (List.mem_singleton.mp hm)
  · intro b hb
    show b < (s.heap.push _).objs.size
    rw [Heap.size_push]
    rcases List.mem_cons.mp hb with e | hb
    · rw [e]; exact Nat.lt_succ_self _
    · rw [List.mem_singleton.mp hb]; exact Nat.lt_succ_of_lt hlt
  · intro b hb hbI
    rcases List.mem_cons.mp hb with e | hb
    · exact absurd e hbI
    · rw [List.mem_singleton.mp hb]
      rcases hl with ⟨o, ho, _⟩ | ⟨o, _, _, h3⟩
      · exact .inl ⟨o, ho⟩
      · exact .inr ⟨o, h3⟩
  · rintro i h ⟨⟨o, ho, _⟩, _⟩
    exact ⟨o, ho⟩
  · intro i v ys c u h tk C D nD oL oI E₂ hi hP
    exact turn i v ys c u h tk C D _ nD oL oI E₂ (by simpa using hP)

theorem comp_range {r : Addr} {a b : Int} {t₀ u₀ v₀ : Tok} {n : Nat} {RR : Value → Addr → Result → Shared → Prop} (led : σ → List (Addr × Obj)) (J : Nat → List Value → σ → Prop) (c₀ : σ)
    (hh : A.handled = none) (hr : IsRange s.heap r a b 1 t₀ u₀ v₀) (hsmall : Builtin.Range.small a b 1 = true) (hn : Builtin.Range.rangeSize a b 1 = (n : Int)) (hsz : n ≤ sizeLine) (hcell : ∀ y ∈ scope.names, y.2 ≠ .cell) (hkind : scope.kind = .function)
    (F : Fr h₀ env.locals s.heap m) (N : News h₀ env.locals s.heap (led c₀)) (hJ : J 0 [] c₀)
    (ht : ∀ I v, letOwnedTupleGo target (.ref I) v = pure ())
    (turn : ∀ (i : Nat) t ys c (u : Str → Option Value) h tk C D I nD oL oI E₂, i < n → ys.length ≤ i → J i ys c → (∀ p ∈ [(env.locals, oL), (I, oI), (D, listOf ys.toArray nD)], ∀ q ∈ led c, p.1 ≠ q.1) → (∀ b o, h₀.get? b = some o → b < C) →
      Fr h₀ C h u → News h₀ C h ([(env.locals, oL), (I, oI), (D, listOf ys.toArray nD)] ++ led c) → (∀ h' : Heap, h'.get? env.locals = some oL → h'.Ns env.locals m) →
      wpAny (model Prog w) A (assign target (compEnvC scope cl C env) (.int (a + (i : Int)) t)) (fun _ s₂ => wpAny (model Prog w) A (TestTree ifs (compEnvC scope cl C env)) (fun ok s₃ =>
        if ok = true then wpAny (model Prog w) A (eval elt (compEnvC scope cl C env)) (fun y s₄ => EltEnd h₀ C [(env.locals, oL), (I, oI), (D, listOf ys.toArray nD)] led (J (i + 1) (ys ++ [y])) { s with heap := h, toks := tk } s₄) E₂ s₃
        else EltEnd h₀ C [(env.locals, oL), (I, oI), (D, listOf ys.toArray nD)] led (J (i + 1) ys) { s with heap := h, toks := tk } s₃) E₂ s₂) E₂ { s with heap := h, toks := tk })
    (hRR : ∀ D C h' tk mC c ys nD, J n ys c → Fr h₀ env.locals h' m → News h₀ env.locals h' ((D, listOf ys.toArray nD) :: led c) → (∀ p ∈ led c, p.1 ≠ D) → h'.Ns C mC → C ≠ env.locals → C ≠ D → (∀ p ∈ led c, p.1 ≠ C) → h₀.get? C = none →
      RR (.ref D) C (.ok .next) { s with heap := h', toks := tk }) :
    wpAny (model Prog w) A (pyIter (.ref r)) (fun it s₂ => CompGo w A env elt target iter ifs scope cl pos RR E it s₂) E s := by
  refine wpAny_pyIter_range hr hsmall ⟨_, rfl, ?_⟩
  have W := Walks.range (prog := Prog) (w := w) hh s.heap.objs.size a 1 n
  refine comp_core (s := { s with heap := _ }) led J c₀ W hsz hcell hkind ?_ ?_ (next_is_new F) (fun p hp => Nat.ne_of_lt (Heap.lt_size (N p hp).1)) (by show IsRangeIter _ _ _ _ _; rw [hn]; simpa using Heap.get?_push_size _ rfl) (F.push _) (fun p hp => ⟨Heap.get?_push_of_some _ (N p hp).1, (N p hp).2⟩) hJ ?_ ?_ (fun i v h hP hst s' Q E' _ q => wpAny_of_eq (ht _ v) q) ?_ hRR
  · intro hm
    exact absurd F.ns.lt ((List.mem_singleton.mp hm) ▸ Nat.lt_irrefl _)
  · intro b hb
    show b < (s.heap.push _).objs.size
    rw [Heap.size_push, List.mem_singleton.mp hb]
    exact Nat.lt_succ_self _
  · intro b hb hbI
    exact absurd (List.mem_singleton.mp hb) hbI
  · intro i h hst
    exact ⟨_, hst⟩
  · rintro i v ys c u h tk C D nD oL oI E₂ hi ⟨t, rfl⟩
    have e1 : a + (i : Int) * 1 = a + (i : Int) := by omega
    rw [e1]
    exact turn i t ys c u h tk C D _ nD oL oI E₂ hi

-- names within a block
theorem nmB_L {x : Str} {pos : Pos} {C : Addr} {u : Str → Option Value} {v : Value} {Q : Value → Shared → Prop} (F : Fr h₀ C s.heap u) (hv : u x = some v) (h : Q v s) (hk : scope.kind = .function)
    (hx : (compEnvC scope cl C env).kindOf x = some .local) (hd : (x == ("__debug__" : Str)) = false) : wpAny (model Prog w) A (eval (.Name x pos) (compEnvC scope cl C env)) Q E s :=
  wpAny_Name (wpAny_loadName_local (by exact hk) hx F.ns hv h) hd
theorem nmB_B {p : Program} {loose : List Str} {K : Frag} {mg mb : Str → Option Value} {x : Str} {pos : Pos} {C : Addr} {u : Str → Option Value} {v : Value} {Q : Value → Shared → Prop} (F : Fr h₀ C s.heap u) (X : K.In h₀) (T : TopRead p loose mg mb h₀) (e : nsIn K mainGlobals x = some none) (hv : bootBuiltins x = some v) (hn : x ≠ "__name__") (h : Q v s)
    (hg : env.globals = mainGlobals) (hb : env.builtins = builtinsNs) (hk : scope.kind = .function) (hx : (compEnvC scope cl C env).kindOf x = some .globalImplicit) (hd : (x == ("__debug__" : Str)) = false) : wpAny (model Prog w) A (eval (.Name x pos) (compEnvC scope cl C env)) Q E s :=
  Name_function_global (by exact hk) hx (loadGlobal_builtin (env := compEnvC scope cl C env) (by show s.heap.Ns env.globals mg; rw [hg]; exact T.g.keeps F.keep) (mg_none_of X T.g e) (by show s.heap.Ns env.builtins mb; rw [hb]; exact T.b.keeps F.keep) ((T.builtins x hn).trans hv) h) hd
theorem nmB_C {x : Str} {pos : Pos} {C c : Addr} {o : Obj} {news : List (Addr × Obj)} {v : Value} {Q : Value → Shared → Prop} (N : News h₀ C s.heap news) (hc : cl.lookup x = some c) (hm : (c, o) ∈ news) (hdt : o.data = .cell (some v)) (h : Q v s) (hk : scope.kind = .function)
    (hx : (compEnvC scope cl C env).kindOf x = some .cell) (hd : (x == ("__debug__" : Str)) = false) : wpAny (model Prog w) A (eval (.Name x pos) (compEnvC scope cl C env)) Q E s :=
  wpAny_Name (wpAny_loadName_cell (by exact hk) hx hc ⟨o, N.get hm, hdt⟩ h) hd
end

local macro_rules | `(tactic| walk_at "eval Name") => `(tactic| (k_here; (with_reducible show wpAny _ _ (eval _ (compEnvC _ _ _ _)) _ _ _); k_dflt (refine' nmB_L (by k_asm) (by rfl) ?_ (by rfl) (by rfl) (by decide); k_whole)))
local macro_rules | `(tactic| walk_at "eval Name") => `(tactic| (k_here; (with_reducible show wpAny _ _ (eval _ (compEnvC _ _ _ _)) _ _ _); k_dflt (refine' nmB_C (by k_asm) (by rfl) (by k_mem) (by first | rfl | assumption) ?_ (by rfl) (by rfl) (by decide); k_whole)))
local macro_rules | `(tactic| walk_at "eval Name") => `(tactic| (k_here; (with_reducible show wpAny _ _ (eval _ (compEnvC _ _ _ _)) _ _ _); k_dflt (refine' nameG_K (by k_asm) (by k_asm) (by k_asm) (by k_is) ?_ (by rfl) (by rfl) (by rfl) (by decide); k_whole)))
local macro_rules | `(tactic| walk_at "eval Name") => `(tactic| (k_here; (with_reducible show wpAny _ _ (eval _ (compEnvC _ _ _ _)) _ _ _); k_dflt (refine' nmB_B (by k_asm) (by k_asm) (by k_asm) (by k_is) (by boot_by_name) (by decide) ?_ (by rfl) (by rfl) (by rfl) (by rfl) (by decide); k_whole)))
local macro_rules | `(tactic| walk_at "eval ListComp") => `(tactic| (k_here; k_dflt (refine' listComp_go (by with_unfolding_all rfl) (by rfl) (by decide) (by intro _; with_unfolding_all rfl) ?_; k_whole)))
local macro_rules | `(tactic| walk_at "exec Assign cons ListComp") => `(tactic| (k_here; k_dflt (refine' assignComp_go (by with_unfolding_all rfl) (by with_unfolding_all rfl) (by rfl) (by decide) (by intro _; with_unfolding_all rfl) ?_; k_whole)))
local macro_rules | `(tactic| walk_at "pyIter ref") => `(tactic| ((with_reducible show wpAny _ _ (pyIter (Value.ref _)) (fun it s₂ => CompGo _ _ _ _ _ _ _ _ _ _ _ _ it s₂) _ _); refine halt_of ?_))
-- SetSort
theorem top_SetSort : True := by
  w_top off
  trivial
def setEs (σ : List Nat) (tk : Nat → Tok) : Array (Int × Value) := (σ.map fun (k : Nat) => ((k : Int), Value.int (k : Int) (tk k))).toArray
def setTb (σ : List Nat) (led : Bool) : SetTable := { SetTable.fresh 0 0 led with place := σ.toArray }
def setOb (σ : List Nat) (tk : Nat → Tok) (led : Bool) (ep : Nat) : Obj := { cls := .type "set", dict := none, data := .set (setEs σ tk) ep (setTb σ led) }
def subs4 : List (List Nat) := [[], [1], [2], [3], [4], [1,2], [1,3], [1,4], [2,3], [2,4], [3,4], [1,2,3], [1,2,4], [1,3,4], [2,3,4], [1,2,3,4]]
def ins4 (k : Nat) : List Nat → List Nat
  | [] => [k]
  | x :: r => if k < x then k :: x :: r else x :: ins4 k r
def upd4 (tk : Nat → Tok) (k : Nat) (t : Tok) : Nat → Tok := fun j => if j = k then t else tk j

def AllP {α : Type} (P : α → Prop) : List α → Prop
  | [] => True
  | a :: r => P a ∧ AllP P r
theorem allP_of {α : Type} {P : α → Prop} : ∀ {l : List α}, AllP P l → ∀ x ∈ l, P x
  | [], _, _, h => nomatch h
  | a :: r, h, x, hx => (List.mem_cons.mp hx).elim (fun e => e ▸ h.1) fun q => allP_of h.2 x q
def LayOne (led : Bool) (tk : Nat → Tok) (t : Tok) (σ : List Nat) (k : Nat) : Prop := k ∉ σ → layNew (setTb σ led) (setEs σ tk) (k : Int) (.int k t) = (setEs (ins4 k σ) (upd4 tk k t), setTb (ins4 k σ) led, false, false) ∧ (setTb (ins4 k σ) led).tooFull = false ∧ ins4 k σ ∈ subs4
theorem lay_all (led : Bool) (tk : Nat → Tok) (t : Tok) : AllP (fun σ => AllP (LayOne led tk t σ) [1,2,3,4]) subs4 := by
  repeat' (first | exact True.intro | (refine And.intro ?_ ?_))
  all_goals first
    | exact fun hn => absurd (by decide) hn
    | (intro _; refine ⟨?_, ?_, ?_⟩; (kernel_rfl); (cases led <;> decide +kernel); decide)
theorem lay_one (σ : List Nat) (k : Nat) (hσ : σ ∈ subs4) (hk : k ∈ [1,2,3,4]) (hn : k ∉ σ) (led : Bool) (tk : Nat → Tok) (t : Tok) :
    layNew (setTb σ led) (setEs σ tk) (k : Int) (.int k t) = (setEs (ins4 k σ) (upd4 tk k t), setTb (ins4 k σ) led, false, false) ∧ (setTb (ins4 k σ) led).tooFull = false ∧ ins4 k σ ∈ subs4 :=
  allP_of (allP_of (lay_all led tk t) σ hσ) k hk hn

theorem ins4_mem {k j : Nat} : ∀ {σ : List Nat}, j ∈ ins4 k σ ↔ j = k ∨ j ∈ σ
  | [] => by simp [ins4]
  | x :: r => by
    unfold ins4
    split
    · simp
    · simp only [List.mem_cons, ins4_mem (σ := r)]
      constructor <;> (rintro (h | h | h) <;> simp [h])

theorem hash4 {k : Nat} (hk : k ∈ [1,2,3,4]) : hashInt (k : Int) = (k : Int) := by
  simp only [List.mem_cons, List.not_mem_nil, or_false] at hk
  rcases hk with rfl|rfl|rfl|rfl <;> rfl

theorem subs4_small {σ : List Nat} (hσ : σ ∈ subs4) : σ.length ≤ 4 ∧ (∀ k ∈ σ, k ∈ [1,2,3,4]) ∧ σ.Pairwise (· < ·) := by
  revert σ; decide

theorem setEs_list {σ : List Nat} {tk : Nat → Tok} : (setEs σ tk).toList = σ.map fun (k : Nat) => ((k : Int), Value.int (k : Int) (tk k)) := by simp [setEs]
theorem setEs_size {σ : List Nat} {tk : Nat → Tok} : (setEs σ tk).size = σ.length := by simp [setEs]

theorem setTb_fits {σ : List Nat} (hσ : σ ∈ subs4) (led : Bool) (tk : Nat → Tok) : (setTb σ led).fits (setEs σ tk).size = true := by
  have := (subs4_small hσ).1
  simp only [SetTable.fits, setTb, SetTable.fresh, SetTable.fill, setEs_size, List.size_toArray, Bool.and_eq_true, beq_self_eq_true, true_and, decide_eq_true_eq]
  show σ.length + 0 ≤ 7
  omega

theorem setEs_elems {w : World} {σ : List Nat} (hσ : σ ∈ subs4) (tk : Nat → Tok) : ElemsOf (intKind Prog w) (setEs σ tk).toList := by
  intro e he
  rw [setEs_list] at he
  obtain ⟨k, hk, rfl⟩ := List.mem_map.mp he
  exact ⟨⟨k, by simp [intKind, Value.isInt], (hash4 ((subs4_small hσ).2.1 k hk)).symm⟩, rfl⟩

section
variable {w : World} {A : Around} {E : Value → Shared → Prop} {s : Shared}

theorem set_add1 {a : Addr} {σ : List Nat} {tk : Nat → Tok} {led : Bool} {ep k : Nat} {t : Tok} {Q : Bool → Shared → Prop} (hσ : σ ∈ subs4) (hk : k ∈ [1,2,3,4])
    (ho : s.heap.get? a = some (setOb σ tk led ep))
    (h : ∀ b h' σ' tk' ep', Heap.SameBut a s.heap h' → h'.get? a = some (setOb σ' tk' led ep') → σ' ∈ subs4 → (∀ j, j ∈ σ' ↔ j = k ∨ j ∈ σ) → Q b { s with heap := h' }) :
    wpAny (model Prog w) A (setAddHashed a (.int (k : Int) t) ((intKind Prog w).hash (k : Int))) Q E s := by
  have hf := setTb_fits hσ led tk
  have hel := setEs_elems (w := w) hσ tk
  have hb : (setEs σ tk).size < scanBound := by rw [setEs_size]; have := (subs4_small hσ).1; unfold scanBound; omega
  have hsc : (Value.int (k : Int) t).scannable = true := rfl
  have hkey : (intKind Prog w).is (k : Int) (.int (k : Int) t) = true := by simp [intKind, Value.isInt]
  unfold setAddHashed setAddHashedIn
  refine wpAny_holding (wpAny_bind (wpAny_setState_of ho rfl hf ?_))
  dsimp only
  rw [byScan_of hsc hb hel]
  simp only [↓reduceIte]
  unfold setAddByScan
  refine wpAny_bind ?_
  refine wpAny_bind (wpAny_rule ?_)
  refine wpAny_bind (wpAny_setScan_of hkey ho rfl hf hel ?_)
  by_cases hm : k ∈ σ
  · obtain ⟨j, hj⟩ : ∃ j, List.findIdx? (fun e => (intKind Prog w).is (k : Int) e.2) (setEs σ tk).toList = some j := by
      cases hr : List.findIdx? (fun e => (intKind Prog w).is (k : Int) e.2) (setEs σ tk).toList with
      | some j => exact ⟨j, rfl⟩
      | none =>
        have := List.findIdx?_eq_none_iff.mp hr ((k : Int), .int (k : Int) (tk k)) (by rw [setEs_list]; exact List.mem_map.mpr ⟨k, hm, rfl⟩)
        simp [intKind, Value.isInt] at this
    rw [hj]
    dsimp only
    refine wpAny_pure (wpAny_pure ?_)
    exact h false s.heap σ tk ep (Heap.SameBut.refl a s.heap) ho hσ fun j => ⟨.inr, fun q => q.elim (fun e => e ▸ hm) id⟩
  · have hr : List.findIdx? (fun e => (intKind Prog w).is (k : Int) e.2) (setEs σ tk).toList = none := by
      rw [List.findIdx?_eq_none_iff]
      intro e he
      rw [setEs_list] at he
      obtain ⟨j, hj, rfl⟩ := List.mem_map.mp he
      have : j ≠ k := fun e => hm (e ▸ hj)
      simp only [intKind, Value.isInt, beq_eq_false_iff_ne, ne_eq]
      omega
    rw [hr]
    dsimp only
    obtain ⟨hl, hfull, hσ'⟩ := lay_one σ k hσ hk hm led tk t
    have hh : (intKind Prog w).hash (k : Int) = (k : Int) := hash4 hk
    rw [hh, hl]
    dsimp only
    refine wpAny_bind (wpAny_pure ?_)
    have hpl : (setTb (ins4 k σ) led).plain = true := rfl
    rw [if_pos hpl]
    refine wpAny_bind ?_
    rw [hashByValue_scannable 8 hsc]
    refine wpAny_pure ?_
    rw [if_pos (show plainKind (.int (k : Int) t) = true from rfl)]
    have hz : (setEs (ins4 k σ) (upd4 tk k t)).size ≤ sizeLine := by rw [setEs_size, sizeLine_eq]; have := (subs4_small hσ').1; omega
    refine wpAny_bind (wpAny_storeSet_of ho rfl ?_ hz)
    rw [hfull]
    simp only [Bool.and_false, Bool.false_eq_true, ↓reduceIte]
    refine wpAny_pure (wpAny_pure ?_)
    refine h true _ (ins4 k σ) (upd4 tk k t) (ep + 1) (Heap.SameBut.update ..) ?_ hσ' fun j => ins4_mem
    exact Heap.get?_update_self (Obj.putSet (setEs (ins4 k σ) (upd4 tk k t)) (setTb (ins4 k σ) led)) ho rfl

theorem set_loop {R : Result → Shared → Prop} {I : Addr} {fp wr : List Addr} {G : Array GenState → Array GenState → Prop} {n : Nat} {P : Nat → Value → Prop} {St : Nat → Shared → Prop} {led : Bool}
    (W : WalksS Prog w A.in1 I fp wr G n P St) (S : Addr) (hSf : S ∉ fp) (val : Nat → Nat) (hval : ∀ i v, P i v → val i ∈ [1,2,3,4] ∧ ∃ t, v = .int (val i : Int) t) :
    ∀ (k i : Nat) (s : Shared) (σ : List Nat) (tk : Nat → Tok) (ep : Nat), n - i = k → i ≤ n → St i s → s.heap.get? S = some (setOb σ tk led ep) → σ ∈ subs4 → (∀ j, j ∈ σ ↔ ∃ m, m < i ∧ val m = j) →
      (∀ s' σ' tk' ep', Moved (S :: wr) G s s' → s'.heap.get? S = some (setOb σ' tk' led ep') → σ' ∈ subs4 → (∀ j, j ∈ σ' ↔ ∃ m, m < n ∧ val m = j) → R (.ok (.ret .none)) s') →
      codeAny (model Prog w) A (.builtin "set.update.loop" ⟨[.ref S, .ref I], []⟩) R s := by
  have hSw : S ∉ wr := fun h => hSf (W.sub _ h)
  have hsub : ∀ b ∈ wr, b ∈ S :: wr := fun b hb => List.mem_cons_of_mem _ hb
  intro k
  induction k with
  | zero =>
    intro i s σ tk ep hk hi hst hS hσ hmem hR
    have hin : i = n := by omega
    subst hin
    refine codeAny_builtin PyProof.Rows.F.entry_set_update_loop ?_
    rw [Around.under_plainId PyProof.Rows.F.plain_set_update_loop _]
    show wpAny _ A.in1 (pyNext (.ref I) >>= _) _ _ s
    refine wpAny_bind (W.done s _ _ hst fun s' hm => ?_)
    show wpAny _ A.in1 (ret Value.none) _ _ s'
    exact wpAny_pure (hR s' σ tk ep (hm.mono hsub) (hm.heap S _ hSw hS) hσ hmem)
  | succ k ih =>
    intro i s σ tk ep hk hi hst hS hσ hmem hR
    have hlt : i < n := by omega
    refine codeAny_builtin PyProof.Rows.F.entry_set_update_loop ?_
    rw [Around.under_plainId PyProof.Rows.F.plain_set_update_loop _]
    show wpAny _ A.in1 (pyNext (.ref I) >>= _) _ _ s
    refine wpAny_bind (W.item i s _ _ hlt hst fun v s' hP hst' hm => ?_)
    obtain ⟨h4, t, rfl⟩ := hval i v hP
    have hS' := hm.heap S _ hSw hS
    show wpAny _ A.in1 (holding [Value.int (val i : Int) t] (setAdd S (.int (val i : Int) t)) >>= _) _ _ s'
    refine wpAny_bind (wpAny_holding ?_)
    unfold setAdd
    refine wpAny_holding ?_
    refine wpAny_bind ((intKind Prog w).pyHash (k := (val i : Int)) (intKind_is _ _ _ _) ?_)
    refine set_add1 (s := { s' with toks := s'.toks + 1 }) hσ h4 hS' fun b h' σ' tk' ep' hsb hS2 hσ' hmem' => ?_
    refine wpAny_pure ⟨plainId_quiet PyProof.Rows.F.plain_set_update_loop _, ih (i + 1) _ σ' tk' ep' (by omega) hlt (W.frame _ s' _ _ hst' (Nat.le_succ _) fun b hb o e => ?_) hS2 hσ' (fun j => ?_) fun s'' σ'' tk'' ep'' hm'' hS'' hσ'' hmem'' => ?_⟩
    · rw [hsb.2 b (fun h : b = S => hSf (by rw [← h]; exact hb))]; exact e
    · rw [hmem' j, hmem j]
      constructor
      · rintro (rfl | ⟨m, hm1, rfl⟩)
        · exact ⟨i, Nat.lt_succ_self _, rfl⟩
        · exact ⟨m, Nat.lt_succ_of_lt hm1, rfl⟩
      · rintro ⟨m, hm1, rfl⟩
        rcases Nat.lt_succ_iff_lt_or_eq.mp hm1 with h | rfl
        · exact .inr ⟨m, h, rfl⟩
        · exact .inl rfl
    · refine hR s'' σ'' tk'' ep'' (Moved.trans W.gtrans ((hm.mono hsub).then_heap (Nat.le_succ _) fun b o hb e => ?_) hm'') hS'' hσ'' hmem''
      rw [hsb.2 b (fun h : b = S => hb (by rw [h]; exact List.mem_cons_self))]; exact e

theorem set_new1 (a : Value) {Q₁ : Value → Shared → Prop}
    (h : Q₁ (.ref s.heap.objs.size) { s with heap := s.heap.push { cls := .type "set", dict := none, data := .set #[] 0 (.fresh 0 0 (!w.params.followText "set-order")) } }) :
    codeAny (model Prog w) A (.call (.builtin "set.__new__") ⟨[.type "set", a], []⟩) (wants Q₁ E) s := by
  refine codeAny_of_tree ?_
  show wpAny _ A.in1 (do checkBuiltinCall "set.__new__" ⟨[.type "set", a], []⟩; again (.builtin "set.__new__" ⟨[.type "set", a], []⟩)) _ _ s
  refine wpAny_bind (wpAny_of_eq (PySem.F.newCall_set_1 a) (wpAny_pure ⟨plainId_quiet PySem.F.plain_set_new _, codeAny_builtin PySem.F.entry_set_new ?_⟩))
  rw [Around.under_plainId PySem.F.plain_set_new _]
  unfold Builtin.«set.__new__» Builtin.Frozenset.newClass
  have hsub := sub_set_self
  obtain ⟨hp, g, d, tk, os⟩ := s
  dsimp only
  wp_walk
  refine wpAny_askSetting (wpAny_pure ?_)
  dsimp only
  simp only [newObj]
  refine wpAny_bind (wpAny_alloc (wpAny_pure ?_))
  exact wpAny_pure h

theorem set_call {l : Addr} {vs : List Value} {ns : List Nat} {Q : Value → Shared → Prop} (hh : A.handled = none) (hl : s.heap.IsList l vs.toArray) (hi : IntsAre vs (ns.map fun (k : Nat) => (k : Int))) (h4 : ∀ k ∈ ns, k ∈ [1,2,3,4])
    (h : ∀ h' tk σ tk' ep', h'.get? s.heap.objs.size = some (setOb σ tk' (!w.params.followText "set-order") ep') → σ ∈ subs4 → (∀ j, j ∈ σ ↔ j ∈ ns) →
      (∀ b o, b < s.heap.objs.size → s.heap.get? b = some o → h'.get? b = some o) → Q (.ref s.heap.objs.size) { s with heap := h', toks := tk }) :
    wpAny (model Prog w) A (call (.type "set") [.ref l]) Q E s := by
  obtain ⟨c, tl, hmro⟩ := PySem.F.called_set.mro
  have hmade := PySem.F.called_set.made
  have hsub := PySem.F.called_set.sub
  refine wpAny_call (codeAny_of_tree ?_)
  show wpAny _ _ (callAny (.type "set") _) _ _ _
  refine wpAny_pure ⟨Code.quiet_builtin _ (by decide +kernel), codeAny_builtin PySem.F.entry_type_call ?_⟩
  rw [Around.under_plain (weight_type_call_type "set" [.ref l] []) rfl]
  have h1 := PySem.F.called_set.notType
  have h2 := PySem.F.called_set.canCreate
  have hct := PySem.F.typeCall_set_1 (.ref l)
  repeat (any_goals (first | assumption | wp_step))
  refine codeAny_mono (set_new1 (.ref l) (E := E) (Q₁ := fun obj s₁ => obj = .ref s.heap.objs.size ∧ s₁ = { s with heap := s.heap.push { cls := .type "set", dict := none, data := .set #[] 0 (.fresh 0 0 (!w.params.followText "set-order")) } }) ⟨rfl, rfl⟩) fun r s₁ hr => ?_
  generalize hled : (!w.params.followText "set-order") = led at hr h
  cases r with
  | error e => exact hr
  | ok fl =>
    cases fl with
    | ret obj =>
      obtain ⟨rfl, rfl⟩ := hr
      have hS : (s.heap.push { cls := .type "set", dict := none, data := .set #[] 0 (.fresh 0 0 led) }).get? s.heap.objs.size = some { cls := .type "set", dict := none, data := .set #[] 0 (.fresh 0 0 led) } := Heap.get?_push_size _ rfl
      have hT : Shared.TypeIs { s with heap := s.heap.push { cls := .type "set", dict := none, data := .set #[] 0 (.fresh 0 0 led) } } (.ref s.heap.objs.size) "set" := ⟨_, hS, rfl⟩
      have hli := PySem.F.called_set.init.lookup
      have hbi := PySem.F.called_set.init.bind (.ref s.heap.objs.size)
      repeat (any_goals (first | assumption | wp_step))
      refine codeAny_mono (codeAny_call_builtin (R := wants (fun r s₂ => r = .none ∧ ∃ h' tk σ tk' ep', s₂ = { s with heap := h', toks := tk } ∧
          h'.get? s.heap.objs.size = some (setOb σ tk' led ep') ∧ σ ∈ subs4 ∧ (∀ j, j ∈ σ ↔ j ∈ ns) ∧
          (∀ b o, b < s.heap.objs.size → s.heap.get? b = some o → h'.get? b = some o)) E) PySem.F.called_set.init.plain PySem.F.entry_set_init (check_set_init_1 hT ?_)) fun r₂ s₂ hr₂ => ?_
      · obtain ⟨ol, hol, hcl, nl, hdl⟩ := hl
        obtain ⟨ocls, odict, odata, oslots⟩ := ol
        simp only at hcl hdl
        subst hcl; subst hdl
        have hol' : (s.heap.push { cls := .type "set", dict := none, data := .set #[] 0 (.fresh 0 0 led) }).get? l = some { cls := .type "list", dict := odict, data := .seq vs.toArray nl, slots := oslots } := Heap.get?_push_of_some _ hol
        have hsls := PySem.F.sub_list_set
        have hslf := PySem.F.sub_list_frozenset
        have hne : (Value.type "list" == Value.type "dict") = false := by decide
        have hl1 : (s.heap.push { cls := .type "set", dict := none, data := .set #[] 0 (.fresh 0 0 led) }).IsList l vs.toArray := ⟨_, hol', rfl, nl, rfl⟩
        unfold Builtin.«set.__init__» noKeywords Builtin.Frozenset.updateFrom
        generalize hPI : pyIter = PI
        wp_walk
        subst hPI
        refine wpAny_pyIter_list hl1 ?_
        refine wpAny_bind (wpAny_runValue ?_)
        have hlS : l < s.heap.objs.size := Heap.lt_size hol
        have hh3 : A.in1.in1.in1.handled = none := by simp [hh]
        have hneI : l ≠ (s.heap.push { cls := .type "set", dict := none, data := .set #[] 0 (.fresh 0 0 led) }).objs.size := by
          rw [Heap.size_push]; exact Nat.ne_of_lt (Nat.lt_succ_of_lt hlS)
        have hSf : s.heap.objs.size ∉ [(s.heap.push { cls := .type "set", dict := none, data := .set #[] 0 (.fresh 0 0 led) }).objs.size, l] := by
          rw [Heap.size_push]; simp only [List.mem_cons, List.mem_singleton, List.not_mem_nil, or_false, not_or]
          exact ⟨Nat.ne_of_lt (Nat.lt_succ_self _), Nat.ne_of_gt hlS⟩
        have hlen : vs.length = ns.length := by have := hi.length; rw [List.length_map] at this; exact this
        have hval : ∀ (i : Nat) (v : Value), vs.toArray[i]? = some v → (fun i => ns.getD i 0) i ∈ [1,2,3,4] ∧ ∃ t, v = .int ((fun i => ns.getD i 0) i : Nat) t := fun i v hv => by
          have hv' : vs[i]? = some v := by simpa using hv
          obtain ⟨x, t, rfl, hx⟩ := hi.at i v hv'
          rw [List.getElem?_map] at hx
          cases q : ns[i]? with
          | none => rw [q] at hx; simp at hx
          | some k =>
            rw [q] at hx
            simp only [Option.map_some, Option.some.injEq] at hx
            subst hx
            have e : ns.getD i 0 = k := by rw [List.getD_eq_getElem?_getD, q]; rfl
            refine ⟨?_, t, ?_⟩
            · show ns.getD i 0 ∈ _
              rw [e]; exact h4 k (List.mem_of_getElem? q)
            · show _ = Value.int ((ns.getD i 0 : Nat) : Int) t
              rw [e]
        refine set_loop (led := led) ((Walks.list hh3 _ l hneI vs.toArray).toS) s.heap.objs.size
          hSf (fun i => ns.getD i 0) hval (vs.toArray.size - 0) 0 _ [] (fun _ => 0) 0 (by omega) (Nat.zero_le _)
          ⟨⟨_, Heap.get?_push_size _ rfl, rfl, rfl⟩, (hl1.push _)⟩ ?hS0 (by decide) (by intro j; constructor; (intro h; cases h); (rintro ⟨m, hm, _⟩; exact absurd hm (Nat.not_lt_zero _))) ?hR
        case hS0 => exact Heap.get?_push_of_some _ hS
        case hR =>
          intro s' σ' tk' ep' hm hS' hσ' hmem'
          obtain ⟨h', g', d', tk₁, os'⟩ := s'
          have eg : g' = s.gens := hm.gens
          have ed : d' = s.drawn := hm.drawn
          have eo : os' = s.os := hm.os
          subst eg; subst ed; subst eo
          show wpAny _ _ _ _ _ _
          refine wpAny_pure ?_
          show wpAny _ _ (ret Value.none) _ _ _
          refine wpAny_pure ⟨rfl, h', tk₁, σ', tk', ep', rfl, hS', hσ', fun j => ?_, fun b o hb e => ?_⟩
          · rw [hmem' j]
            simp only [List.size_toArray, hlen]
            constructor
            · rintro ⟨m, hm1, rfl⟩
              rw [List.getD_eq_getElem?_getD, List.getElem?_eq_getElem hm1]
              exact List.getElem_mem hm1
            · intro hj
              obtain ⟨m, hm1, e⟩ := List.getElem_of_mem hj
              exact ⟨m, hm1, by rw [List.getD_eq_getElem?_getD, List.getElem?_eq_getElem hm1]; exact e⟩
          · have hb1 : b ≠ s.heap.objs.size := Nat.ne_of_lt hb
            have hb2 : b ≠ (s.heap.push { cls := .type "set", dict := none, data := .set #[] 0 (.fresh 0 0 led) }).objs.size := by
              rw [Heap.size_push]; exact Nat.ne_of_lt (Nat.lt_succ_of_lt hb)
            exact hm.heap b o (by simp only [List.mem_cons, List.mem_singleton, List.not_mem_nil, or_false, not_or]; exact ⟨hb1, hb2⟩) (Heap.get?_push_of_some _ (Heap.get?_push_of_some _ e))
      · cases r₂ with
        | error e => exact hr₂
        | ok fl₂ =>
          cases fl₂ with
          | ret r =>
            obtain ⟨rfl, h', tk, σ, tk', ep', rfl, hS', hσ', hmem', hk'⟩ := hr₂
            repeat (any_goals (first | assumption | wp_step))
            exact h _ _ σ tk' ep' hS' hσ' hmem' hk'
          | _ => exact hr₂.elim
    | _ => exact hr.elim
end
-- SetIter
theorem top_SetIter : True := by
  w_top off
  trivial
theorem getElem_erase {α : Type} : ∀ (l : List α) (i : Nat) (h : i < l.length), (l[i] :: l.eraseIdx i).Perm l
  | x :: r, 0, _ => .refl _
  | x :: r, i + 1, h => by
    have h' : i < r.length := by simpa using h
    exact (List.Perm.swap x r[i] (r.eraseIdx i)).trans ((getElem_erase r i h').cons x)
theorem pick_go {α : Type} (next : Nat → Nat) : ∀ (fuel k : Nat) (left : List α) (out : Array α), left.length ≤ fuel → ∃ l', (pickOrder.go next fuel k left out).toList = out.toList ++ l' ∧ l'.Perm left
  | 0, k, left, out, h => by
    have : left = [] := List.length_eq_zero_iff.mp (Nat.le_zero.mp h)
    subst this
    exact ⟨[], by simp [pickOrder.go], .nil⟩
  | fuel + 1, k, left, out, h => by
    unfold pickOrder.go
    cases left with
    | nil => exact ⟨[], by simp, .nil⟩
    | cons y r =>
      have hlt : next k % (y :: r).length < (y :: r).length := Nat.mod_lt _ (by simp)
      rw [List.getElem?_eq_getElem hlt]
      dsimp only
      obtain ⟨l', h1, h2⟩ := pick_go next fuel (k + 1) ((y :: r).eraseIdx (next k % (y :: r).length)) (out.push (y :: r)[next k % (y :: r).length]) (by rw [List.length_eraseIdx_of_lt hlt]; simp at h ⊢; omega)
      refine ⟨(y :: r)[next k % (y :: r).length] :: l', by rw [h1]; simp, ?_⟩
      exact (h2.cons _).trans (getElem_erase _ _ hlt)
theorem pick_perm {α : Type} (next : Nat → Nat) (xs : Array α) : (pickOrder next xs).toList.Perm xs.toList := by
  obtain ⟨l', h1, h2⟩ := pick_go next xs.size 0 xs.toList #[] (by simp)
  unfold pickOrder
  rw [h1]
  simpa using h2

def setOrd (w : World) (a : Addr) (σ : List Nat) (tk : Nat → Tok) (ep : Nat) : Array (Int × Value) :=
  if w.params.followText "set-order" = true then pickOrder (w.params.setOrder a ep) (setEs σ tk) else setEs σ tk

theorem setOrd_perm (w : World) (a : Addr) (σ : List Nat) (tk : Nat → Tok) (ep : Nat) : (setOrd w a σ tk ep).toList.Perm (σ.map fun (k : Nat) => ((k : Int), Value.int (k : Int) (tk k))) := by
  unfold setOrd
  split
  · exact setEs_list ▸ pick_perm _ _
  · rw [setEs_list]

theorem ints_of_entries {tk : Nat → Tok} : ∀ (l : List (Int × Value)), (∀ e ∈ l, ∃ k : Nat, e = ((k : Int), Value.int (k : Int) (tk k))) → IntsAre (l.map (·.2)) ((l.map fun e => e.1.toNat).map fun (k : Nat) => (k : Int))
  | [], _ => .nil
  | e :: l, h => by
    obtain ⟨k, rfl⟩ := h e (.head _)
    exact .cons _ _ (ints_of_entries l fun e he => h e (.tail _ he))

theorem setOrd_ints (w : World) (a : Addr) (σ : List Nat) (tk : Nat → Tok) (ep : Nat) : ∃ ns : List Nat, IntsAre ((setOrd w a σ tk ep).toList.map (·.2)) (ns.map fun (k : Nat) => (k : Int)) ∧ ns.Perm σ := by
  refine ⟨(setOrd w a σ tk ep).toList.map fun e => e.1.toNat, ints_of_entries (tk := tk) _ fun e he => ?_, ?_⟩
  · obtain ⟨k, _, rfl⟩ := List.mem_map.mp ((setOrd_perm w a σ tk ep).mem_iff.mp he)
    exact ⟨k, rfl⟩
  · have := (setOrd_perm w a σ tk ep).map fun e => e.1.toNat
    rw [List.map_map] at this
    refine this.trans (List.Perm.of_eq ?_)
    conv => rhs; rw [← List.map_id σ]
    exact List.map_congr_left fun k _ => by simp

def slotAt (σ : List Nat) (i : Nat) : Nat := if i = 0 then 0 else σ.getD (i - 1) 0 + 1
theorem below_at : ∀ σ ∈ subs4, ∀ i < 5, i ≤ σ.length → SetTable.below σ.toArray (slotAt σ i) = i := by decide +kernel

def setIt (slot i : Nat) (a : Addr) (n ep : Nat) : Obj := { cls := .type "set_iterator", data := .fields #[.int slot 0, .int i 0, .ref a, .int n 0, .int ep 0] }

theorem slot_setit_next : Slot "set_iterator" "__next__" "set_iterator.__next__" :=
  .of (owner := "set_iterator") (n := "__next__") (by rw [typeLookup_type, builtinLookup_eq_fast]; kernel_rfl) (by decide +kernel) (by decide +kernel) (by decide +kernel)
    (by first | exact .inl (by decide +kernel) | exact .inr (by decide +kernel)) (by rw [isSubtype_type]; kernel_rfl)
theorem slot_setit_iter : Slot "set_iterator" "__iter__" "set_iterator.__iter__" :=
  .of (owner := "set_iterator") (n := "__iter__") (by rw [typeLookup_type, builtinLookup_eq_fast]; kernel_rfl) (by decide +kernel) (by decide +kernel) (by decide +kernel)
    (by first | exact .inl (by decide +kernel) | exact .inr (by decide +kernel)) (by rw [isSubtype_type]; kernel_rfl)
theorem entry_setit_next : entryFor table "set_iterator.__next__" = some Builtin.«set_iterator.__next__» := entryFor_of_fast (by kernel_rfl)
theorem entry_setit_iter : entryFor table "set_iterator.__iter__" = some Builtin.«dict_keyiterator.__iter__» :=
  entryFor_alias (id' := "dict_keyiterator.__iter__") (by kernel_rfl) rfl (by decide +kernel) (by kernel_rfl)
theorem args_setit_next (a : Value) : argsOk "set_iterator.__next__" ⟨[a], []⟩ := by unfold argsOk; kernel_rfl
theorem args_setit_iter (a : Value) : argsOk "set_iterator.__iter__" ⟨[a], []⟩ := by unfold argsOk; kernel_rfl
theorem entry_set_iter' : entryFor table "set.__iter__" = some Builtin.«frozenset.__iter__» :=
  entryFor_alias (id' := "frozenset.__iter__") (by kernel_rfl) rfl (by decide +kernel) (by kernel_rfl)

section
variable {w : World} {A : Around} {E : Value → Shared → Prop} {s : Shared} {a : Addr} {σ : List Nat} {tk : Nat → Tok} {led : Bool} {ep : Nat}

def SetAt (w : World) (h : Heap) (a I : Addr) (σ : List Nat) (tk : Nat → Tok) (led : Bool) (ep i : Nat) : Prop :=
  (∃ slot, h.get? I = some (setIt slot i a σ.length ep) ∧ (w.params.followText "set-order" = true ∨ slot = slotAt σ i)) ∧ h.get? a = some (setOb σ tk led ep)

theorem byText_at {M : Model} {Q : Bool → Shared → Prop} (h : Q (M.w.params.followText "set-order") s) : wpAny M A setsByText Q E s := by
  unfold setsByText
  exact wpAny_bind (wpAny_askSetting (wpAny_pure h))

theorem set_next {slot i : Nat} {Q : Option (Value × Nat) → Shared → Prop} (hσ : σ ∈ subs4) (hled : led = !w.params.followText "set-order") (hi : i ≤ σ.length) (ho : s.heap.get? a = some (setOb σ tk led ep))
    (hsl : w.params.followText "set-order" = true ∨ slot = slotAt σ i)
    (h : ∀ nx, (w.params.followText "set-order" = true ∨ (i < σ.length → nx = slotAt σ (i + 1))) → Q ((setOrd w a σ tk ep)[i]?.map fun e => (e.2, nx)) s) :
    wpAny (model Prog w) A (setNext a slot i ep) Q E s := by
  have hf := setTb_fits hσ led tk
  unfold setNext
  refine wpAny_bind (wpAny_setState_of ho rfl hf ?_)
  dsimp only
  refine wpAny_bind (byText_at ?_)
  try dsimp only
  by_cases ht : w.params.followText "set-order" = true
  · rw [if_pos (show (model Prog w).w.params.followText "set-order" = true from ht)]
    rw [if_neg (by simp)]
    unfold setWalk
    refine wpAny_bind (wpAny_bind (wpAny_setState_of ho rfl hf ?_))
    dsimp only
    refine wpAny_bind (byText_at ?_)
    rw [if_pos (show (model Prog w).w.params.followText "set-order" = true from ht)]
    refine wpAny_bind (wpAny_askSetting (wpAny_pure ?_))
    dsimp only
    refine wpAny_pure ?_
    have := h slot (.inl ht)
    unfold setOrd at this
    rw [if_pos ht] at this
    exact this
  · rw [if_neg (show ¬ (model Prog w).w.params.followText "set-order" = true from ht)]
    have hslot : slot = slotAt σ i := hsl.resolve_left ht
    have e1 : led = true := by rw [hled]; simpa using ht
    subst hslot
    subst e1
    refine wpAny_ite ?_
    split
    · rename_i hd; exact absurd (show false = true from hd) Bool.false_ne_true
    refine wpAny_bind ?_
    show wpAny _ _ (pure ()) _ _ _
    refine wpAny_pure ?_
    try dsimp only
    have hb : SetTable.below (setTb σ true).place (slotAt σ i) = i := below_at σ hσ i (by have := (subs4_small hσ).1; omega) hi
    rw [hb]
    refine wpAny_pure ?_
    have hord : setOrd w a σ tk ep = setEs σ tk := by unfold setOrd; rw [if_neg ht]
    have hpl : (setTb σ true).place[i]? = σ[i]? := by show σ.toArray[i]? = _; simp
    have hes : (setEs σ tk)[i]? = σ[i]?.map fun (k : Nat) => ((k : Int), Value.int (k : Int) (tk k)) := by simp [setEs]
    have := h (σ.getD i 0 + 1) (.inr fun _ => by unfold slotAt; rw [if_neg (by omega)]; simp)
    rw [hord, hes] at this
    rw [hpl, hes]
    cases q : σ[i]? with
    | none => rw [q] at this; exact this
    | some k =>
      rw [q] at this
      have e : σ.getD i 0 = k := by rw [List.getD_eq_getElem?_getD, q]; rfl
      rw [e] at this
      exact this

theorem setit_get {h : Heap} {I : Addr} {slot i n ep : Nat} {b : Addr} (o : h.get? I = some (setIt slot i b n ep)) (j : Nat) (v : Value) :
    (h.update I (Obj.mapFields (·.setIfInBounds j v))).get? I = some { cls := .type "set_iterator", data := .fields (#[.int slot 0, .int i 0, .ref b, .int n 0, .int ep 0].setIfInBounds j v) } := by
  exact Heap.get?_update_self _ o (Obj.isFreed_of_fields (Obj.data_mapFields rfl _))

theorem setOrd_size (w : World) (a : Addr) (σ : List Nat) (tk : Nat → Tok) (ep : Nat) : (setOrd w a σ tk ep).size = σ.length := by
  rw [← Array.length_toList, (setOrd_perm w a σ tk ep).length_eq, List.length_map]

theorem set_walks {I : Addr} (hh : A.handled = none) (hσ : σ ∈ subs4) (hled : led = !w.params.followText "set-order") (hne : a ≠ I) :
    Walks Prog w A I [I, a] [I] σ.length (fun i v => ∃ e, (setOrd w a σ tk ep)[i]? = some e ∧ v = e.2) (fun i h => SetAt w h a I σ tk led ep i) where
  sub := fun b hb => by simp at hb; simp [hb]
  frame := fun i h h' ⟨⟨slot, h1, h2⟩, h3⟩ hk => ⟨⟨slot, hk I (by simp) _ h1, h2⟩, hk a (by simp) _ h3⟩
  self := fun i s Q E ⟨⟨slot, h1, h2⟩, h3⟩ hQ => by
    refine wpAny_pyIter_slot ⟨_, h1, rfl⟩ slot_setit_iter (wpAny_call_entry slot_setit_iter ⟨_, h1, rfl⟩ entry_setit_iter ?_ (args_setit_iter _))
    show wpAny _ _ (ret (.ref I)) _ _ s
    exact wpAny_pure ⟨_, rfl, "set_iterator", _, ⟨_, h1, rfl⟩, slot_setit_next.lookup, hQ⟩
  item := fun i s Q E hi ⟨⟨slot, h1, h2⟩, h3⟩ hQ => by
    have hf := setTb_fits hσ led tk
    have hT : s.TypeIs (.ref I) "set_iterator" := ⟨_, h1, rfl⟩
    unfold pyNext
    refine wpAny_bind (wpAny_attempt (wpAny_callSpecial?_slot (name := Str.ofString "__next__") hT slot_setit_next
      (wpAny_call_entry slot_setit_next hT entry_setit_next ?_ (args_setit_next _))))
    unfold Builtin.«set_iterator.__next__»
    refine wpAny_bind (m := slotArgs "__next__" 0 _) (wpAny_pure ?_)
    refine wpAny_bind (wpAny_fieldsOf h1 rfl ?_)
    dsimp only
    refine wpAny_bind (wpAny_setEntries_of h3 rfl hf ?_)
    try dsimp only
    rw [setEs_size]
    rw [if_neg (by simp)]
    refine wpAny_bind ?_
    simp only [Int.toNat_natCast]
    refine set_next hσ hled (Nat.le_of_lt hi) h3 h2 fun nx hnx => ?_
    obtain ⟨e, he⟩ : ∃ e, (setOrd w a σ tk ep)[i]? = some e := ⟨_, Array.getElem?_eq_getElem (by rw [setOrd_size]; exact hi)⟩
    rw [he]
    dsimp only [Option.map_some]
    refine wpAny_bind (wpAny_setField h1 rfl (by simp) ?_)
    have g1 := setit_get h1 0 (rawInt nx)
    refine wpAny_bind (wpAny_setField g1 rfl (by simp) (wpAny_pure ⟨e.2, rfl, wpAny_pure ?_⟩))
    have g2 : ((s.heap.update I (Obj.mapFields (·.setIfInBounds 0 (rawInt nx)))).update I (Obj.mapFields (·.setIfInBounds 1 (rawInt ((i : Int) + 1))))).get? I = some (setIt nx (i + 1) a σ.length ep) := by
      have := Heap.get?_update_self (Obj.mapFields (·.setIfInBounds 1 (rawInt ((i : Int) + 1)))) g1 (Obj.isFreed_of_fields (Obj.data_mapFields rfl _))
      exact this
    have oth : ∀ b o, b ≠ I → s.heap.get? b = some o → ((s.heap.update I (Obj.mapFields (·.setIfInBounds 0 (rawInt nx)))).update I (Obj.mapFields (·.setIfInBounds 1 (rawInt ((i : Int) + 1))))).get? b = some o := fun b o hb e =>
      (Heap.get?_update_other _ _ (Ne.symm hb)).trans ((Heap.get?_update_other _ _ (Ne.symm hb)).trans e)
    exact hQ e.2 _ s.toks ⟨e, he, rfl⟩ ⟨⟨nx, g2, hnx.imp id fun q => q hi⟩, oth a _ hne h3⟩ fun b o hb e => oth b o (fun q => hb (by simp [q])) e
  done := fun s Q E ⟨⟨slot, h1, h2⟩, h3⟩ hQ => by
    have hf := setTb_fits hσ led tk
    have hT : s.TypeIs (.ref I) "set_iterator" := ⟨_, h1, rfl⟩
    unfold pyNext
    refine wpAny_bind (wpAny_attempt (wpAny_callSpecial?_slot (name := Str.ofString "__next__") hT slot_setit_next
      (wpAny_call_entry slot_setit_next hT entry_setit_next ?_ (args_setit_next _))))
    unfold Builtin.«set_iterator.__next__»
    refine wpAny_bind (m := slotArgs "__next__" 0 _) (wpAny_pure ?_)
    refine wpAny_bind (wpAny_fieldsOf h1 rfl ?_)
    dsimp only
    refine wpAny_bind (wpAny_setEntries_of h3 rfl hf ?_)
    try dsimp only
    rw [setEs_size]
    rw [if_neg (by simp)]
    refine wpAny_bind ?_
    simp only [Int.toNat_natCast]
    refine set_next hσ hled (Nat.le_refl _) h3 h2 fun nx hnx => ?_
    have he : (setOrd w a σ tk ep)[σ.length]? = none := Array.getElem?_eq_none (by rw [setOrd_size]; exact Nat.le_refl _)
    rw [he]
    dsimp only [Option.map_none]
    refine wpAny_bind (wpAny_setField h1 rfl (by simp) ?_)
    show wpAny _ _ (newExc (.type "StopIteration") [] >>= _) _ _ _
    refine wpAny_bind ?_
    simp only [newExc, newTuple]
    refine wpAny_bind (wpAny_newObj_type ?_ (by size_fits))
    refine wpAny_bind (m := firstArgMember _ _) (wpAny_of_eq (a := Value.none) (by first | rfl | (simp only [firstArgMember]; rfl)) ?_)
    refine wpAny_newObj_type ?_ (by size_fits)
    simp only [raiseNew]
    refine wpAny_bind (wpAny_handled ?_)
    rw [show A.in1.handled = none from hh]
    refine wpAny_bind (wpAny_pure (wpAny_throw ?_))
    refine wpAny_bind (wpAny_isInstance (T := "StopIteration") (b := true) ⟨_, Heap.get?_push_size _ rfl, rfl⟩ isSubtype_stop ?_)
    refine wpAny_pure (hQ _ s.toks fun b o hb e => ?_)
    exact Heap.get?_push_of_some _ (Heap.get?_push_of_some _ ((Heap.get?_update_other _ _ (fun q : I = b => hb (by simp [q]))).trans e))
end
-- SetSorted
theorem top_SetSorted : True := by
  w_top off
  trivial
section
variable {w : World} {A : Around} {E : Value → Shared → Prop} {s : Shared} {a : Addr} {σ : List Nat} {tk : Nat → Tok} {led : Bool} {ep : Nat}

theorem set_iter {Q : Value → Shared → Prop} (hσ : σ ∈ subs4) (ho : s.heap.get? a = some (setOb σ tk led ep))
    (h : Q (.ref s.heap.objs.size) { s with heap := s.heap.push (setIt 0 0 a σ.length ep) }) : wpAny (model Prog w) A (pyIter (.ref a)) Q E s := by
  have hf := setTb_fits hσ led tk
  have hT : s.TypeIs (.ref a) "set" := ⟨_, ho, rfl⟩
  refine wpAny_pyIter_slot hT PySem.F.slot_set_iter (wpAny_call_entry PySem.F.slot_set_iter hT entry_set_iter' ?_ (PySem.F.args_set_iter_1 _))
  unfold Builtin.«frozenset.__iter__»
  refine wpAny_bind (m := Builtin.Frozenset.slot0 "__iter__" _) ?_
  unfold Builtin.Frozenset.slot0
  refine wpAny_bind (m := slotArgs "__iter__" 0 _) (wpAny_pure ?_)
  try dsimp only
  refine wpAny_pure ?_
  unfold Builtin.Frozenset.sizeOf
  refine wpAny_bind (wpAny_bind (wpAny_setEntries_of ho rfl hf (wpAny_pure ?_)))
  refine wpAny_bind ?_
  unfold setDrawn
  refine wpAny_bind (wpAny_setState_of ho rfl hf ?_)
  try dsimp only
  refine wpAny_bind (byText_at (wpAny_pure ?_))
  try dsimp only
  split
  · rename_i hd
    exact absurd (show (!_ && false) = true from hd) (by simp)
  refine wpAny_bind (wpAny_pure (wpAny_bind (wpAny_setEpoch_of ho rfl hf ?_)))
  rw [setEs_size]
  exact wpAny_bind (wpAny_newObj_type (wpAny_pure ⟨_, rfl, "set_iterator", _, ⟨_, Heap.get?_push_size _ rfl, rfl⟩, slot_setit_next.lookup, h⟩))

theorem look_set_len : typeLookup (.type "set") "__len__" = pure (some (.builtin "set.__len__")) := by rw [typeLookup_type, builtinLookup_eq_fast]; kernel_rfl

theorem collect_set {Q : List Value → Shared → Prop} (hh : A.handled = none) (hσ : σ ∈ subs4) (hled : led = !w.params.followText "set-order") (ho : s.heap.get? a = some (setOb σ tk led ep))
    (h : ∀ h' tk' (vs : List Value) (ns : List Nat), IntsAre vs (ns.map fun (k : Nat) => (k : Int)) → ns.Perm σ → (∀ b o, s.heap.get? b = some o → h'.get? b = some o) → Q vs { s with heap := h', toks := tk' }) :
    wpAny (model Prog w) A (collect (.ref a)) Q E s := by
  have ha : a < s.heap.objs.size := Heap.lt_size ho
  unfold collect
  refine wpAny_bind (wpAny_runValue (codeAny_builtin PySem.F.entry_proto_collect ?_))
  rw [Around.under_plainId PySem.F.plain_proto_collect _]
  show wpAny _ A.in1 (newList [] >>= fun l => again (.builtin "list.__iadd__" ⟨[l, .ref a], []⟩)) _ _ s
  refine wpAny_bind (wpAny_newObj_type ?_)
  refine wpAny_pure ⟨plainId_quiet PySem.F.plain_list_iadd _, codeAny_builtin PySem.F.entry_list_iadd ?_⟩
  rw [Around.under_plainId PySem.F.plain_list_iadd _]
  have ho₁ : (s.heap.push { cls := .type "list", data := .seq ([] : List Value).toArray }).get? a = some (setOb σ tk led ep) := Heap.get?_push_of_some _ ho
  have hS₁ : (s.heap.push { cls := .type "list", data := .seq ([] : List Value).toArray }).get? s.heap.objs.size = some { cls := .type "list", data := .seq ([] : List Value).toArray } := Heap.get?_push_size _ rfl
  have hSa : s.heap.objs.size ≠ a := Nat.ne_of_gt ha
  have h1 : Builtin.List.listSameRef (.ref s.heap.objs.size) (.ref a) = false := by simp [Builtin.List.listSameRef, hSa]
  have hT : Shared.TypeIs { s with heap := s.heap.push { cls := .type "list", data := .seq ([] : List Value).toArray } } (.ref a) "set" := ⟨_, ho₁, rfl⟩
  show wpAny _ A.in1 (Builtin.List.listExtendWith (.ref s.heap.objs.size) (.ref a) (.ref s.heap.objs.size)) _ _ _
  unfold Builtin.List.listExtendWith
  refine wpAny_bind (wpAny_typeOf hT ?_)
  rw [if_neg (by rw [h1]; decide)]
  refine wpAny_bind (set_iter hσ ho₁ ?_)
  have hI : ((s.heap.push { cls := .type "list", data := .seq ([] : List Value).toArray })).objs.size = s.heap.objs.size + 1 := Heap.size_push ..
  rw [hI]
  refine wpAny_bind (wpAny_holding ?_)
  have ho₂ : ((s.heap.push { cls := .type "list", data := .seq ([] : List Value).toArray }).push (setIt 0 0 a σ.length ep)).get? a = some (setOb σ tk led ep) := Heap.get?_push_of_some _ ho₁
  have hS₂ : ((s.heap.push { cls := .type "list", data := .seq ([] : List Value).toArray }).push (setIt 0 0 a σ.length ep)).get? s.heap.objs.size = some { cls := .type "list", data := .seq ([] : List Value).toArray } := Heap.get?_push_of_some _ hS₁
  have hI₂ : ((s.heap.push { cls := .type "list", data := .seq ([] : List Value).toArray }).push (setIt 0 0 a σ.length ep)).get? (s.heap.objs.size + 1) = some (setIt 0 0 a σ.length ep) := by rw [← hI]; exact Heap.get?_push_size _ rfl
  unfold Builtin.List.listLengthHint
  refine wpAny_bind (wpAny_specialOf (T := "set") ⟨_, ho₂, rfl⟩ look_set_len ?_)
  (generalize hid : ("set.__len__" : String) = id0; (fail_if_success (clear hid id0)); wp_delta; rw [show splitId id0 = some ("set", "__len__") from by subst hid; decide +kernel]; subst hid)
  refine wpAny_bind (wpAny_isInstance (T := "set") (b := true) ⟨_, ho₂, rfl⟩ (by rw [isSubtype_type]; kernel_rfl) ?_)
  rw [if_neg (by decide)]
  refine wpAny_bind (wpAny_typeOf (T := "set") ⟨_, ho₂, rfl⟩ ?_)
  try dsimp only
  refine wpAny_pure ?_
  try dsimp only
  split
  case isFalse hs => exact (hs (by decide +kernel)).elim
  refine wpAny_bind (wpAny_rule ?_)
  refine wpAny_bind ?_
  show wpAny _ A.in1 (updateSeq s.heap.objs.size (·.push .none) >>= fun _ => updateSeq s.heap.objs.size (·.pop)) _ _ _
  refine wpAny_bind (wpAny_updateSeq hS₂ rfl ?_)
  have hS₃ := Heap.get?_update_self (Obj.mapSeq (·.push Value.none)) hS₂ rfl
  refine wpAny_updateSeq hS₃ rfl ?_
  have hS₄ := Heap.get?_update_self (Obj.mapSeq (·.pop)) hS₃ rfl
  have oth : ∀ b o, b ≠ s.heap.objs.size → ((s.heap.push { cls := .type "list", data := .seq ([] : List Value).toArray }).push (setIt 0 0 a σ.length ep)).get? b = some o →
      ((((s.heap.push { cls := .type "list", data := .seq ([] : List Value).toArray }).push (setIt 0 0 a σ.length ep)).update s.heap.objs.size (Obj.mapSeq (·.push Value.none))).update s.heap.objs.size (Obj.mapSeq (·.pop))).get? b = some o :=
    fun b o hb e => (Heap.get?_update_other _ _ (Ne.symm hb)).trans ((Heap.get?_update_other _ _ (Ne.symm hb)).trans e)
  have hne : a ≠ s.heap.objs.size + 1 := Nat.ne_of_lt (Nat.lt_succ_of_lt ha)
  have W := (set_walks (w := w) (A := A.in1) (I := s.heap.objs.size + 1) (tk := tk) (ep := ep) hh hσ hled hne).toS
  have hSf : s.heap.objs.size ∉ [s.heap.objs.size + 1, a] := by
    simp only [List.mem_cons, List.not_mem_nil, or_false, not_or]
    exact ⟨Nat.ne_of_lt (Nat.lt_succ_self _), hSa⟩
  refine wpAny_pure ⟨plainId_quiet PySem.F.plain_extend_loop _, codeAny_extend_loopS W (by have := (subs4_small hσ).1; rw [sizeLine_eq]; omega) _ hSf _ σ.length 0 _ _ _ rfl (Nat.zero_le _)
    ⟨⟨0, oth _ _ (Nat.ne_of_gt (Nat.lt_succ_self _)) hI₂, .inr rfl⟩, oth _ _ (Ne.symm hSa) ho₂⟩ hS₄ (ItemsOf.nil _) fun s' acc' c' hm hS' hacc => ?_⟩
  show wpAny _ A (load s.heap.objs.size >>= _) _ _ s'
  refine wpAny_bind (wpAny_load hS' (wpAny_pure ?_))
  obtain ⟨h', g', d', tk₁, os'⟩ := s'
  have eg : g' = s.gens := hm.gens
  have ed : d' = s.drawn := hm.drawn
  have eo : os' = s.os := hm.os
  subst eg; subst ed; subst eo
  obtain ⟨ns, hn1, hn2⟩ := setOrd_ints w a σ tk ep
  have hacc' : acc'.toList = (setOrd w a σ tk ep).toList.map (·.2) := by
    apply List.ext_getElem?
    intro i
    rw [List.getElem?_map, Array.getElem?_toList, Array.getElem?_toList]
    cases q : acc'[i]? with
    | some v =>
      obtain ⟨e, he, rfl⟩ := hacc.2 i v q
      rw [he]; rfl
    | none =>
      have h1 : acc'.size ≤ i := Array.getElem?_eq_none_iff.mp q
      rw [hacc.1] at h1
      rw [Array.getElem?_eq_none (by rw [setOrd_size]; exact h1)]; rfl
  rw [← hacc'] at hn1
  refine h h' tk₁ acc'.toList ns hn1 hn2 fun b o e => ?_
  have hb : b < s.heap.objs.size := Heap.lt_size e
  refine hm.heap b o ?_ (oth b o (Nat.ne_of_lt hb) (Heap.get?_push_of_some _ (Heap.get?_push_of_some _ e)))
  simp only [List.mem_cons, List.not_mem_nil, or_false, not_or]
  exact ⟨Nat.ne_of_lt hb, Nat.ne_of_lt (Nat.lt_succ_of_lt hb)⟩

/-- `sorted(set(some))`, on the list of a frame -/
theorem sorted_set {h₀ : Heap} {L l : Addr} {m : Str → Option Value} {news : List (Addr × Obj)} {Q : Value → Shared → Prop} (F : Fr h₀ L s.heap m) (N : News h₀ L s.heap news)
    (hh : A.handled = none) (hσ : σ ∈ subs4) (hled : led = !w.params.followText "set-order") (hm : (l, setOb σ tk led ep) ∈ news)
    (h : ∀ (h' : Heap) (tk' : Nat) (D : Addr) (vs' : List Value) (ns' : List Int) (e : Nat), Fr h₀ L h' m → News h₀ L h' ((D, listOf vs'.toArray e) :: news) → (∀ p ∈ news, p.1 ≠ D) →
      IntsAre vs' ns' → ns' = σ.map (fun (k : Nat) => (k : Int)) → Q (.ref D) { s with heap := h', toks := tk' }) :
    wpAny (model Prog w) A (call (.builtin "sorted") [.ref l]) Q E s := by
  have ho := (N _ hm).1
  refine Calls.call_function_entry kind_sorted plain_sorted entry_sorted (args_sorted1 _) ?_
  unfold Builtin.«sorted»
  refine wpAny_bind (m := checkCount "sorted" 1 1 _) (wpAny_pure ?_)
  refine wpAny_bind (collect_set hh hσ hled ho fun h₁ tk₁ vs ns hi hp hk => ?_)
  have hlen : vs.length = σ.length := by rw [hi.length, List.length_map, hp.length_eq]
  have h4 := (subs4_small hσ).1
  refine wpAny_bind (wpAny_newList ?_ (by rw [sizeLine_eq]; omega))
  have hoL : (h₁.push (seqObj "list" vs.toArray 0)).get? h₁.objs.size = some (seqObj "list" vs.toArray 0) := Heap.get?_push_size _ rfl
  have F₁ : Fr h₀ L h₁ m := F.kept hk
  have N₁ : News h₀ L h₁ news := N.grown hk
  have F₂ : Fr h₀ L (h₁.push (seqObj "list" vs.toArray 0)) m := F₁.push _
  refine wpAny_bind (wpAny_holding (wpAny_call_entry slot_list_sort ⟨_, hoL, rfl⟩ entry_list_sort (list_sort_tree hoL hi (by omega) fun out ns' a1 a2 a3 => ⟨_, rfl, ?_⟩) (args_list_sort _)))
  refine wpAny_pure ⟨_, rfl, ?_⟩
  obtain ⟨e, he⟩ := sortedHeap_at (vs := vs) (out := out) hoL
  have keep : ∀ b o, h₁.get? b = some o → (sortedHeap (h₁.push (seqObj "list" vs.toArray 0)) h₁.objs.size vs out).get? b = some o := fun b o q => by
    have hb := Heap.lt_size q
    rw [sortedHeap_old (Nat.ne_of_lt hb) (by rw [size_push']; exact Nat.lt_succ_of_lt hb)]
    exact Heap.get?_push_of_some _ q
  have hpw : (σ.map fun (k : Nat) => (k : Int)).Pairwise (· ≤ ·) := by
    rw [List.pairwise_map]
    exact (subs4_small hσ).2.2.imp fun {x y} h => by omega
  have hns : ns' = σ.map (fun (k : Nat) => (k : Int)) :=
    List.Perm.eq_of_pairwise (fun x y _ _ h1 h2 => Int.le_antisymm h1 h2) a3 hpw (a2.trans (hp.map _))
  exact h _ tk₁ h₁.objs.size out.toList ns' e (F₁.kept keep) (N₁.kept_cons F₁ keep (Nat.le_refl _) he) (fun p hp => Nat.ne_of_lt (Heap.lt_size (N₁ p hp).1)) a1 hns

theorem set_N {h₀ : Heap} {L l : Addr} {m : Str → Option Value} {news : List (Addr × Obj)} {vs : List Value} {e : Nat} {ns : List Int} {Q : Value → Shared → Prop} (F : Fr h₀ L s.heap m) (N : News h₀ L s.heap news)
    (hh : A.handled = none) (hm : (l, listOf vs.toArray e) ∈ news) (hi : IntsAre vs ns) (h4 : ∀ k ∈ ns, 1 ≤ k ∧ k ≤ 4)
    (h : ∀ h' tk D σ tk' ep', Fr h₀ L h' m → News h₀ L h' ((D, setOb σ tk' (!w.params.followText "set-order") ep') :: news) → (∀ p ∈ news, p.1 ≠ D) → σ ∈ subs4 → (∀ j : Nat, j ∈ σ ↔ (j : Int) ∈ ns) → Q (.ref D) { s with heap := h', toks := tk }) :
    wpAny (model Prog w) A (call (.type "set") [.ref l]) Q E s := by
  have hl : s.heap.IsList l vs.toArray := ⟨_, (N _ hm).1, rfl, _, rfl⟩
  have hns : (ns.map Int.toNat).map (fun (k : Nat) => (k : Int)) = ns := by
    rw [List.map_map]
    conv => rhs; rw [← List.map_id ns]
    exact List.map_congr_left fun k hk => by have := h4 k hk; simp; omega
  refine set_call (ns := ns.map Int.toNat) hh hl (by rw [hns]; exact hi) (fun k hk => ?_) fun h' tk σ tk' ep' ho hσ hmem hk => ?_
  · obtain ⟨x, hx, rfl⟩ := List.mem_map.mp hk
    have := h4 x hx
    have : x.toNat = 1 ∨ x.toNat = 2 ∨ x.toNat = 3 ∨ x.toNat = 4 := by omega
    simpa using this
  · have keep : ∀ b o, s.heap.get? b = some o → h'.get? b = some o := fun b o q => hk b o (Heap.lt_size q) q
    refine h h' tk s.heap.objs.size σ tk' ep' (F.kept keep) (N.kept_cons F keep (Nat.le_refl _) ho) (fun p hp => Nat.ne_of_lt (Heap.lt_size (N p hp).1)) hσ fun j => ?_
    rw [hmem j]
    constructor
    · intro q
      obtain ⟨x, hx, rfl⟩ := List.mem_map.mp q
      have := h4 x hx
      rw [show ((x.toNat : Nat) : Int) = x by omega]
      exact hx
    · intro q
      exact List.mem_map.mpr ⟨_, q, by simp⟩
end
local macro_rules | `(tactic| walk_at "call type:set") => `(tactic| (k_here; k_dflt (refine' set_N (by k_asm) (by k_asm) (by rfl) (by k_mem) (by assumption) (by assumption) ?_; k_whole)))
local macro_rules | `(tactic| walk_at "call builtin:sorted") => `(tactic| (k_here; k_dflt (refine' sorted_set (by k_asm) (by k_asm) (by rfl) (by assumption) (by rfl) (by k_mem) ?_; k_whole)))
-- LawIsCl
theorem top_LawIsCl : True := by
  w_top off
  trivial
theorem rising_same {c : List Int} {σ : List Nat} (hσ : σ ∈ subs4) (hmem : ∀ j : Nat, j ∈ σ ↔ (j : Int) ∈ c.map (fun x => (x.natAbs : Int))) (h0 : (c.map (fun x => (x.natAbs : Int))).any (fun x => x == 0) = false) :
    c.map (fun x => (x.natAbs : Int)) = σ.map (fun k : Nat => (k : Int)) ↔ Proper c := by
  have hpw := (subs4_small hσ).2.2
  have hz : ∀ x ∈ c, x ≠ 0 := fun x hx e => by
    have := List.any_eq_false.mp h0 _ (List.mem_map.mpr ⟨x, hx, rfl⟩)
    simp [e] at this
  constructor
  · intro e
    refine ⟨?_, hz⟩
    have h1 : (σ.map (fun k : Nat => (k : Int))).Pairwise (· < ·) := by
      rw [List.pairwise_map]; exact hpw.imp fun {x y} h => by omega
    rw [← e, List.pairwise_map] at h1
    exact h1.imp fun {x y} h => by omega
  · intro hp
    have h1 : (σ.map (fun k : Nat => (k : Int))).Pairwise (· < ·) := by
      rw [List.pairwise_map]; exact hpw.imp fun {x y} h => by omega
    have h2 : (c.map (fun x => (x.natAbs : Int))).Pairwise (· < ·) := by
      rw [List.pairwise_map]; exact hp.1.imp fun {x y} h => by omega
    refine List.Perm.eq_of_pairwise (le := (· < ·)) (fun x y _ _ h1 h2 => by omega) h2 h1 ?_
    refine (List.perm_ext_iff_of_nodup (h2.imp fun {x y} h => by omega) (h1.imp fun {x y} h => by omega)).mpr fun x => ?_
    constructor
    · intro hx
      obtain ⟨y, hy, rfl⟩ := List.mem_map.mp hx
      exact List.mem_map.mpr ⟨y.natAbs, (hmem _).mpr hx, rfl⟩
    · intro hx
      obtain ⟨y, hy, rfl⟩ := List.mem_map.mp hx
      exact (hmem y).mp hy

theorem lisclause_c {w : World} {t : Addr} {us : List Value} {c : List Int} (hus : IntsAre us c) (hsm : Small 5 c) :
    Does w 182 [.ref t] [] [(t, tup us)] 8 (fun v own => ∃ b, v = .bool b ∧ own = [] ∧ (b = true ↔ Proper c)) := by
  intro mean mg mb dp un gd cn cs a ccd cl outer A₀ base h₀ L m rest s Q E G hk F N hsep himm hd hu hret
  walk_at "MINE in"
  intro g L' h₁ tk₁ FG F' N' G' st lt
  refine hideF (by passes_own) rfl fun AA Qf Ef hAA hAh hEf hQf => ?_
  have ht : g.get? t = some (tup us) := st _ _ (himm _ (.head _)).1 (himm _ (.head _)).2
  have hT : IsTup g t us.toArray := ⟨_, ht, rfl, 0, rfl⟩
  have hul := hus.length
  have hsl := hsm.1
  clear F N G st himm hsep
  have ⟨B', X', T'⟩ := G'
  try dsimp only
  try k_fold
  walk_at "MINE go"
  (rename Fr _ _ _ _ => F3); (rename News _ _ _ _ => N3)
  refine halt_mk ?_
  refine comp_tuple (σ := Unit) (fun _ => []) (fun i ys _ => IntsAre ys ((c.take i).map fun x => (x.natAbs : Int))) () hAh (.inl ⟨_, ht, rfl, 0, rfl⟩) (by rw [sizeLine_eq]; omega) (by decide) rfl F3 (fun _ h => nomatch h) .nil (fun _ _ => rfl) ?turn (rr_assign rfl rfl ?done)
  case turn =>
    rintro i v ys ⟨⟩ u h₄ tk₄ C D I nD oL oI E₂ hv hlen hys hoff hbC F₄ N₄ hL
    clear F3 N3
    refine hideG fun G0 hG0 => ?_
    obtain ⟨y, ty, rfl, hy⟩ := hus.at i v hv
    refine hG0 ?_
    clear hG0
    have hti : c.take (i + 1) = c.take i ++ [y] := by rw [List.take_add_one, hy]; rfl
    refine turn_name (by decide) rfl F₄ N₄ fun h₅ tk₅ F₅ N₅ => wpAny_tests_nil ?_
    clear F₄ N₄
    simp only [if_true]
    try k_fold
    walk_at "MINE go"
    rename Fr _ _ _ _ => F6; rename News _ _ _ _ => N6
    refine eltEnd (led := fun _ : Unit => []) () F6 N6 hoff ?_
    rw [hti, List.map_append]
    have e : (if y < 0 then -y else y) = (y.natAbs : Int) := by split <;> omega
    rw [e]
    exact hys.append (.cons _ _ .nil)
  case done =>
    intro D c' h₄ tk₄ ys nD hys F₄ N₄ hD
    clear F3 N3
    rw [hul, List.take_length] at hys
    try k_fold
    try dsimp only
    walk_at "MINE go"
    · try dsimp only
      walk_at "MINE out"
      refine leaveF (by assumption) (news' := []) (fun _ h => nomatch h) ?_
      intro F9 N9 S9
      refine hret _ _ _ _ ⟨_, rfl, rfl, ?_⟩ F9 N9 S9
      rename (_ = true) => h1
      rw [h1]
      exact ⟨fun h => (nomatch h), fun hp => absurd h1 (by
        rw [List.any_eq_true]
        rintro hJ9
        refine hideG fun G0 hG0 => ?_
        obtain ⟨x, hx, e⟩ := hJ9
        refine hG0 ?_
        clear hG0
        obtain ⟨y, hy, rfl⟩ := List.mem_map.mp hx
        have := hp.2 y hy
        simp at e
        omega)⟩
    · rename (_ = false) => h0
      have h4 : ∀ k ∈ c.map (fun x => (x.natAbs : Int)), 1 ≤ k ∧ k ≤ 4 := fun k hk => by
        refine hideG fun G0 hG0 => ?_
        obtain ⟨x, hx, rfl⟩ := List.mem_map.mp hk
        refine hG0 ?_
        clear hG0
        have h1 := hsm.2 x hx
        have h2 : ¬ ((x.natAbs : Int) = 0) := fun e => by
          have := List.any_eq_false.mp h0 _ hk
          simp [e] at this
        omega
      refine set_N (by assumption) (by assumption) rfl (by k_mem) hys h4 ?_
      intro h₅ tk₅ D₅ σ tkσ epσ F₅ N₅ hD₅ hσ hmem
      clear F₄ N₄
      refine wpAny_of_eq (a := []) rfl ?_
      dsimp only
      refine sorted_set (by assumption) (by assumption) rfl hσ rfl (by k_mem) ?_
      intro h₆ tk₆ D₆ vs₆ ns₆ e₆ F₆ N₆ hD₆ hi₆ hn₆
      clear F₅ N₅
      try k_fold
      refine eq_intsK ⟨_, (N₆ _ (.tail _ (.tail _ (.head _)))).1, rfl, _, rfl⟩ hys ⟨_, (N₆ _ (.head _)).1, rfl, _, rfl⟩ hi₆ (by rw [hAA]; first | units_room | (walk_at "MINE room")) ?_
      k_unfold
      try dsimp only
      walk_at "MINE out"
      refine leaveF (by assumption) (news' := []) (fun _ h => nomatch h) ?_
      intro F9 N9 S9
      refine hret _ _ _ _ ⟨_, rfl, rfl, ?_⟩ F9 N9 S9
      rw [hn₆, decide_eq_true_iff]
      exact rising_same hσ hmem h0
-- Pure
theorem top_Pure : True := by
  w_top off
  trivial
/-- what unit propagation reaches -/
inductive Der (cls : List (List Int)) (lits : List Int) : Int → Prop
  | base {l : Int} : l ∈ lits → Der cls lits l
  | unit {c : List Int} {l : Int} : c ∈ cls → l ∈ c → (∀ l' ∈ c, l' ≠ l → Der cls lits (-l')) → Der cls lits l

def Clash (cls : List (List Int)) (lits : List Int) : Prop := (∃ l, Der cls lits l ∧ Der cls lits (-l)) ∨ ∃ c ∈ cls, ∀ l ∈ c, Der cls lits (-l)

def Rises (xs : List Int) : Prop := xs.Pairwise (fun a b => a.natAbs < b.natAbs)

def IsUP (cls : List (List Int)) (lits : List Int) : Option (List Int) → Prop
  | none => Clash cls lits
  | some xs => ¬ Clash cls lits ∧ (∀ l, l ∈ xs ↔ Der cls lits l) ∧ Rises xs

theorem rises_eq {xs ys : List Int} (hx : Rises xs) (hy : Rises ys) (h : ∀ l, l ∈ xs ↔ l ∈ ys) : xs = ys := by
  refine List.Perm.eq_of_pairwise (le := fun a b : Int => a.natAbs < b.natAbs) (fun a b _ _ h1 h2 => by omega) hx hy ?_
  exact (List.perm_ext_iff_of_nodup (hx.imp fun {a b} h e => by subst e; omega) (hy.imp fun {a b} h e => by subst e; omega)).mpr h

theorem isUP_unique {cls : List (List Int)} {lits : List Int} {r q : Option (List Int)} (hr : IsUP cls lits r) (hq : IsUP cls lits q) : r = q := by
  cases r with
  | none => cases q with
    | none => rfl
    | some ys => exact absurd hr hq.1
  | some xs => cases q with
    | none => exact absurd hq hr.1
    | some ys => rw [rises_eq hr.2.2 hq.2.2 fun l => (hr.2.1 l).trans (hq.2.1 l).symm]

/-- a set of literals in which no two clash -/
def Cons (T : List Int) : Prop := ∀ l ∈ T, -l ∉ T

theorem cons_snoc {T : List Int} {y : Int} (h : Cons T) (h1 : -y ∉ T) (h0 : y ≠ 0) : Cons (T ++ [y]) := by
  intro l hl
  rw [List.mem_append, List.mem_singleton] at hl
  rw [List.mem_append, List.mem_singleton, not_or]
  rcases hl with hl | rfl
  · exact ⟨h l hl, fun e => h1 (by have : l = -y := by omega
                                   rw [← this]; exact hl)⟩
  · exact ⟨h1, by omega⟩

/-- `T` is closed under `cls` -/
def ClosedAt (T c : List Int) : Prop := (∃ l ∈ c, -l ∉ T) ∧ ∀ l ∈ c, (∀ l' ∈ c, l' ≠ l → -l' ∈ T) → l ∈ T

theorem der_closed {cls : List (List Int)} {lits T : List Int} (hl : ∀ l ∈ lits, l ∈ T) (hc : ∀ c ∈ cls, ClosedAt T c) {l : Int} (h : Der cls lits l) : l ∈ T := by
  induction h with
  | base h => exact hl _ h
  | unit h1 h2 _ ih => exact (hc _ h1).2 _ h2 ih

theorem closed_up {cls : List (List Int)} {lits T : List Int} (hl : ∀ l ∈ lits, l ∈ T) (hd : ∀ l ∈ T, Der cls lits l) (hcons : Cons T) (hc : ∀ c ∈ cls, ClosedAt T c) :
    ¬ Clash cls lits ∧ ∀ l, l ∈ T ↔ Der cls lits l := by
  have key : ∀ l, l ∈ T ↔ Der cls lits l := fun l => ⟨hd l, der_closed hl hc⟩
  refine ⟨?_, key⟩
  rintro (⟨l, h1, h2⟩ | ⟨c, hc1, h⟩)
  · exact hcons l ((key l).mpr h1) ((key _).mpr h2)
  · obtain ⟨⟨l, hl1, hl2⟩, _⟩ := hc c hc1
    exact hl2 ((key _).mpr (h l hl1))

theorem nodup_snoc {T : List Int} {y : Int} (h : T.Nodup) (hy : y ∉ T) : (T ++ [y]).Nodup := by
  rw [List.nodup_append]
  refine ⟨h, by simp, fun a ha b hb => ?_⟩
  rw [List.mem_singleton.mp hb]
  exact fun e => hy (e ▸ ha)

/-- at most four -/
theorem cons_len {T : List Int} (hn : T.Nodup) (hc : Cons T) (h4 : ∀ l ∈ T, l ≠ 0 ∧ l.natAbs ≤ 4) : T.length ≤ 4 := by
  have h1 : (T.map Int.natAbs).Nodup := by
    rw [List.nodup_iff_pairwise_ne, List.pairwise_map]
    refine (List.nodup_iff_pairwise_ne.mp hn).imp_of_mem ?_
    intro a b ha hb hab e
    have : a = -b ∨ a = b := by omega
    rcases this with e | e
    · exact hc b hb (e ▸ ha)
    · exact hab e
  have h2 : (T.map Int.natAbs) ⊆ [1,2,3,4] := by
    intro x hx
    obtain ⟨l, hl, rfl⟩ := List.mem_map.mp hx
    have := h4 l hl
    have : l.natAbs = 1 ∨ l.natAbs = 2 ∨ l.natAbs = 3 ∨ l.natAbs = 4 := by omega
    simpa using this
  have h3 := h1.length_le_of_subset h2
  simpa using h3
theorem natAbs_inj {T : List Int} (hc : Cons T) {a b : Int} (ha : a ∈ T) (hb : b ∈ T) (e : a.natAbs = b.natAbs) : a = b := by
  have : a = -b ∨ a = b := by omega
  rcases this with e | e
  · exact absurd (e ▸ ha) (hc b hb)
  · exact e
theorem closed_one {T c lf : List Int} {x : Int} (hmem : ∀ y, y ∈ lf ↔ y ∈ c ∧ -y ∉ T) (hlf : lf = [x]) (hx : x ∈ T) : ClosedAt T c := by
  subst hlf
  have h1 := (hmem x).mp (by simp)
  refine ⟨⟨x, h1⟩, fun l hl h => ?_⟩
  by_cases e : x = l
  · exact e ▸ hx
  · exact absurd (h x h1.1 e) h1.2
theorem closed_many {T c lf : List Int} (hmem : ∀ y, y ∈ lf ↔ y ∈ c ∧ -y ∉ T) (hn : lf.Nodup) (h0 : lf ≠ []) (h1 : lf.length ≠ 1) : ClosedAt T c := by
  match lf, hmem, hn, h0, h1 with
  | [], _, _, h0, _ => exact absurd rfl h0
  | [_], _, _, _, h1 => exact absurd rfl h1
  | a :: b :: r, hmem, hn, _, _ =>
    have ha := (hmem a).mp (by simp)
    have hb := (hmem b).mp (by simp)
    have hab : a ≠ b := fun e => by
      rw [List.nodup_cons] at hn
      exact hn.1 (by simp [e])
    refine ⟨⟨a, ha⟩, fun l hl h => ?_⟩
    have e1 : a = l := Decidable.byContradiction fun e => ha.2 (h a ha.1 e)
    have e2 : b = l := Decidable.byContradiction fun e => hb.2 (h b hb.1 e)
    exact absurd (e1.trans e2.symm) hab
theorem proper_nodup {c : List Int} (h : Proper c) : c.Nodup := List.nodup_iff_pairwise_ne.mpr (h.1.imp fun {a b} h e => by subst e; omega)
theorem len_one {lf : List Int} (h : lf.length = 1) : ∃ x, lf = [x] := by
  match lf, h with
  | [x], _ => exact ⟨x, rfl⟩
-- PairSort
theorem top_PairSort : True := by
  w_top off
  trivial
/-- the sort's answer, where each question is answered by c and asks within n -/
def runT {α : Type} (c : Nat → Nat → Bool) (n : Nat) : KasT α → Option α
  | .ret a => some a
  | .ask i j k => if i < n ∧ j < n then runT c n (k (c i j)) else none

theorem run_wp {α : Type} {cmp : Nat → Nat → (Bool → Shared → Prop) → Shared → Prop} {c : Nat → Nat → Bool} {n : Nat} {s : Shared} (h : ∀ i j C, i < n → j < n → C (c i j) s → cmp i j C s) :
    ∀ (t : KasT α) (a : α) (Q : α → Shared → Prop), runT c n t = some a → Q a s → t.kasWp cmp Q s
  | .ret b, a, Q, e, q => by
    have : b = a := by simpa [runT] using e
    subst this; exact q
  | .ask i j k, a, Q, e, q => by
    unfold runT at e
    split at e
    · rename_i hij
      exact h i j _ hij.1 hij.2 (run_wp h (k (c i j)) a Q e q)
    · cases e

def goodSort (ks : List Nat) : Bool :=
  match runT (fun i j => decide (ks.getD i 0 < ks.getD j 0)) ks.length (kas_sort ks.length) with
  | none => false
  | some p => p.toList.isPerm (List.range ks.length) && decide ((p.toList.map fun i => ks.getD i 0).Pairwise (· < ·))
theorem good2 : ∀ a ∈ [1,2,3,4], ∀ b ∈ [1,2,3,4], [a,b].Nodup → goodSort [a,b] = true := by decide +kernel
theorem good3 : ∀ a ∈ [1,2,3,4], ∀ b ∈ [1,2,3,4], ∀ c ∈ [1,2,3,4], [a,b,c].Nodup → goodSort [a,b,c] = true := by decide +kernel
theorem good4 : ∀ a ∈ [1,2,3,4], ∀ b ∈ [1,2,3,4], ∀ c ∈ [1,2,3,4], ∀ d ∈ [1,2,3,4], [a,b,c,d].Nodup → goodSort [a,b,c,d] = true := by decide +kernel
theorem good_all {ks : List Nat} (h2 : 2 ≤ ks.length) (h4 : ks.length ≤ 4) (h : ∀ k ∈ ks, k ∈ [1,2,3,4]) (hn : ks.Nodup) : goodSort ks = true := by
  match ks, h2, h4, h, hn with
  | [a, b], _, _, h, hn => exact good2 a (h a (by simp)) b (h b (by simp)) hn
  | [a, b, c], _, _, h, hn => exact good3 a (h a (by simp)) b (h b (by simp)) c (h c (by simp)) hn
  | [a, b, c, d], _, _, h, hn => exact good4 a (h a (by simp)) b (h b (by simp)) c (h c (by simp)) d (h d (by simp)) hn

/-- a list of fewer than two items sorts to itself -/
theorem list_sort_few {prog : Program} {w : World} {A : Around} {E : Value → Shared → Prop} {s : Shared} {a : Addr} {vs : List Value} {n : Nat} {P : PySem.Fin → Shared → Prop} (ho : s.heap.get? a = some (seqObj "list" vs.toArray n))
    (h2 : vs.length < 2) (h : P (.done (.ret .none)) { s with heap := sortedHeap s.heap a vs vs.toArray }) :
    wpAny (model prog w) A (Builtin.«list.sort» ⟨[.ref a], []⟩) P E s := by
  rw [list_sort_plain]
  have ha : a < s.heap.objs.size := Heap.lt_size ho
  have hz : vs.length ≤ sizeLine := by rw [sizeLine_eq]; omega
  refine wpAny_bind (listItems_at ho rfl ?_)
  refine wpAny_bind (listUpdate_at ho rfl ?_ (by rw [List.size_toArray]; exact hz) (Nat.zero_le _))
  obtain ⟨e1, ho1⟩ : ∃ e1, (s.heap.update a (Obj.mapSeq fun _ => #[])).get? a = some (seqObj "list" #[] e1) := ⟨_, get?_update_seq ho (fun _ => #[])⟩
  refine wpAny_bind (seqEpoch_at ho1 rfl ?_)
  refine wpAny_bind (wpAny_newTuple ?_ hz)
  refine wpAny_bind (wpAny_newList ?_ (Nat.zero_le _))
  refine wpAny_holding ?_
  have ho6 : (((s.heap.update a (Obj.mapSeq fun _ => #[])).push (seqObj "tuple" vs.toArray 0)).push (seqObj "list" #[] 0)).get? a = some (seqObj "list" #[] e1) := by
    rw [Heap.get?_push_ne _ _ _ (by rw [size_push', Heap.size_update]; exact Nat.ne_of_lt (Nat.lt_succ_of_lt ha)), Heap.get?_push_ne _ _ _ (by rw [Heap.size_update]; exact Nat.ne_of_lt ha)]
    exact ho1
  show wpAny (model prog w) A _ P E { s with heap := ((s.heap.update a (Obj.mapSeq fun _ => #[])).push (seqObj "tuple" vs.toArray 0)).push (seqObj "list" #[] 0) }
  dsimp only
  have hsz : vs.toArray.size < 2 := by rw [List.size_toArray]; exact h2
  rw [if_pos hsz, if_pos hsz]
  refine wpAny_bind (wpAny_pure ?_)
  rw [StateT.run_pure]
  refine wpAny_bind (wpAny_pure ?_)
  dsimp only
  refine wpAny_bind (seqEpoch_at ho6 rfl ?_)
  have e : (arrOf (SortSt.mk' general' (vs.toArray.zip vs.toArray) #[] 7 none)).map (·.2) = vs.toArray := by
    show (vs.toArray.zip vs.toArray).map (·.2) = vs.toArray
    apply Array.ext'
    simp [List.zip]
    exact List.map_id vs
  rw [e]
  refine wpAny_bind (listUpdate_at ho6 rfl ?_ (Nat.zero_le _) (by rw [List.size_toArray]; exact Nat.le_succ_of_le hz))
  simp only [bne_self_eq_false, Bool.false_eq_true, if_false]
  exact wpAny_pure h

theorem pw_few {α : Type} {R : α → α → Prop} : ∀ {P : List α}, P.length < 2 → P.Pairwise R
  | [], _ => .nil
  | [_], _ => List.pairwise_singleton _ _
  | _ :: _ :: r, h => absurd h (Nat.not_lt.mpr (Nat.le_add_left 2 r.length))
/-- (abs x, x), as a tuple -/
structure Pr where
  a : Addr
  x : Int
  t1 : Tok
  t2 : Tok
def Pr.ob (p : Pr) : Addr × Obj := (p.a, tup [.int (if p.x < 0 then -p.x else p.x) p.t1, .int p.x p.t2])
def Pr.rf (p : Pr) : Value := .ref p.a
def prDef : Pr := ⟨0, 0, 0, 0⟩

theorem prs_tups {h : Heap} : ∀ {P : List Pr}, (∀ p ∈ P, h.get? p.a = some p.ob.2) → KatTups h (P.map Pr.rf) (P.map fun p => Value.int (if p.x < 0 then -p.x else p.x) p.t1)
  | [], _ => KatTups.nil
  | p :: P, hp => KatTups.cons (hp p (.head _)) rfl rfl rfl (prs_tups fun q hq => hp q (.tail _ hq))

theorem getD_map {α β : Type} (f : α → β) (P : List α) (i : Nat) (d : β) (e : α) (hi : i < P.length) : (P.map f).getD i d = f (P.getD i e) := by
  simp [List.getD_eq_getElem?_getD, List.getElem?_eq_getElem hi]

section
variable {w : World} {A : Around} {E : Value → Shared → Prop} {s : Shared}

theorem absi (x : Int) : (if x < 0 then -x else x) = ((x.natAbs : Nat) : Int) := by split <;> omega
theorem pr_ask {P : List Pr} {i j : Nat} {C : Bool → Shared → Prop} (hg : ∀ p ∈ P, s.heap.get? p.a = some p.ob.2) (hn : (P.map fun p => p.x.natAbs).Nodup) (hi : i < P.length) (hj : j < P.length)
    (h : C (decide ((P.map fun p => p.x.natAbs).getD i 0 < (P.map fun p => p.x.natAbs).getD j 0)) s) :
    kas_ask Prog w A (tuples' true) (P.map Pr.rf) i j C s := by
  unfold kas_ask
  rw [getD_map Pr.rf P i _ prDef hi, getD_map Pr.rf P j _ prDef hj]
  rw [getD_map _ P i _ prDef hi, getD_map _ P j _ prDef hj] at h
  have mi : P.getD i prDef ∈ P := by rw [List.getD_eq_getElem?_getD, List.getElem?_eq_getElem hi]; exact List.getElem_mem hi
  have mj : P.getD j prDef ∈ P := by rw [List.getD_eq_getElem?_getD, List.getElem?_eq_getElem hj]; exact List.getElem_mem hj
  have inj : (P.getD i prDef).x.natAbs = (P.getD j prDef).x.natAbs → P.getD i prDef = P.getD j prDef := fun e => by
    have : i = j := by
      have h1 : (P.map fun p => p.x.natAbs)[i]'(by simpa using hi) = (P.map fun p => p.x.natAbs)[j]'(by simpa using hj) := by
        simp only [List.getElem_map]
        rw [List.getD_eq_getElem?_getD, List.getElem?_eq_getElem hi, List.getD_eq_getElem?_getD, List.getElem?_eq_getElem hj] at e
        exact e
      have pw := List.pairwise_iff_getElem.mp (List.nodup_iff_pairwise_ne.mp hn)
      rcases Nat.lt_trichotomy i j with hij | hij | hij
      · exact absurd h1 (pw i j (by simpa using hi) (by simpa using hj) hij)
      · exact hij
      · exact absurd h1.symm (pw j i (by simpa using hj) (by simpa using hi) hij)
    rw [this]
  generalize P.getD i prDef = p at h mi inj ⊢
  generalize P.getD j prDef = q at h mj inj ⊢
  refine kat_lt (hg p mi) rfl (hg q mj) rfl ?_
  refine kat_cons (wpAny_eqBool_int ?_)
  refine kat_go (fun he => kat_yes ?_) (fun he => kat_no (oneLt_int ?_))
  · have ee : (if p.x < 0 then -p.x else p.x) = (if q.x < 0 then -q.x else q.x) := by simpa using he
    rw [absi, absi] at ee
    have e1 : p.x.natAbs = q.x.natAbs := Int.ofNat_inj.mp ee
    have e2 := inj e1
    subst e2
    refine kat_cons (wpAny_eqBool_int ?_)
    refine kat_go (fun he => kat_yes (kat_nil ?_)) (fun he => absurd he (by simp))
    simpa using h
  · have e1 : decide ((if p.x < 0 then -p.x else p.x) < (if q.x < 0 then -q.x else q.x)) = decide (p.x.natAbs < q.x.natAbs) := by
      rw [absi, absi]
      congr 1
      exact propext Int.ofNat_lt
    rw [e1]
    exact h

theorem pairs_sorted {h₀ : Heap} {L l : Addr} {m : Str → Option Value} {news : List (Addr × Obj)} {P : List Pr} {e : Nat} {Q : Value → Shared → Prop} (F : Fr h₀ L s.heap m) (N : News h₀ L s.heap news)
    (hm : (l, listOf (P.map Pr.rf).toArray e) ∈ news) (hP : ∀ p ∈ P, p.ob ∈ news) (h4 : P.length ≤ 4) (hk : ∀ p ∈ P, p.x ≠ 0 ∧ p.x.natAbs ≤ 4) (hn : (P.map fun p => p.x.natAbs).Nodup)
    (h : ∀ D e' h' P', Fr h₀ L h' m → News h₀ L h' ((D, listOf (P'.map Pr.rf).toArray e') :: news) → (∀ q ∈ news, q.1 ≠ D) → List.Perm P' P → P'.Pairwise (fun p q => p.x.natAbs < q.x.natAbs) → Q (.ref D) { s with heap := h' }) :
    wpAny (model Prog w) A (call (.builtin "sorted") [.ref l]) Q E s := by
  have hl : s.heap.IsList l (P.map Pr.rf).toArray := ⟨_, (N _ hm).1, rfl, _, rfl⟩
  by_cases h2 : 2 ≤ P.length
  · refine kat_sorted F N hl (by rw [List.length_map]; exact h2) (by rw [List.length_map]; omega) fun D e1 h' F' N' lt => ?_
    have hg : ∀ p ∈ P, h'.get? p.a = some p.ob.2 := fun p hp => (N' _ (.tail _ (hP p hp))).1
    refine kat_kind (T := .type "int") (prs_tups hg) (by simp; omega) (fun v hv => ?_) rfl ?_
    · obtain ⟨p, _, rfl⟩ := List.mem_map.mp hv
      exact Looks.of_pure rfl
    rw [show (Value.type "int" != Value.type "tuple") = true from by decide]
    have hks : ∀ k ∈ P.map (fun p => p.x.natAbs), k ∈ [1,2,3,4] := fun k hk' => by
      obtain ⟨p, hp, rfl⟩ := List.mem_map.mp hk'
      have := hk p hp
      have : p.x.natAbs = 1 ∨ p.x.natAbs = 2 ∨ p.x.natAbs = 3 ∨ p.x.natAbs = 4 := by omega
      simpa using this
    have good := good_all (ks := P.map fun p => p.x.natAbs) (by simpa using h2) (by simpa using h4) hks hn
    unfold goodSort at good
    simp only [List.length_map] at good ⊢
    cases hr : runT (fun i j => decide ((P.map fun p => p.x.natAbs).getD i 0 < (P.map fun p => p.x.natAbs).getD j 0)) P.length (kas_sort P.length) with
    | none => rw [hr] at good; cases good
    | some p =>
      rw [hr] at good
      simp only [Bool.and_eq_true, decide_eq_true_eq] at good
      obtain ⟨g1, g2⟩ := good
      have g1 := List.isPerm_iff.mp g1
      refine run_wp (fun i j C hi hj hC => pr_ask hg hn hi hj hC) _ p _ hr ?_
      have hin : ∀ i ∈ p.toList, i < P.length := fun i hi => List.mem_range.mp (g1.mem_iff.mp hi)
      have hout : (p.toList.map fun i => (P.map Pr.rf).getD i Value.none) = (p.toList.map fun i => P.getD i prDef).map Pr.rf := by
        rw [List.map_map]
        exact List.map_congr_left fun i hi => getD_map Pr.rf P i _ prDef (hin i hi)
      rw [hout]
      refine KasFin.intro F' N' (UpdF.head fun q hq => Nat.ne_of_lt (lt q hq)) fun h'' c F'' N'' => ?_
      refine h D c h'' (p.toList.map fun i => P.getD i prDef) F'' N'' (fun q hq => Nat.ne_of_lt (lt q hq)) ?_ ?_
      · have := g1.map fun i => P.getD i prDef
        refine this.trans (List.Perm.of_eq ?_)
        apply List.ext_getElem
        · simp
        · intro i h1 h2
          simp [List.getD_eq_getElem?_getD, List.getElem?_eq_getElem h2]
      · rw [List.pairwise_map] at g2 ⊢
        refine g2.imp_of_mem fun {i j} hi hj hij => ?_
        rw [getD_map _ P i _ prDef (hin i hi), getD_map _ P j _ prDef (hin j hj)] at hij
        exact hij
  · have hlen : (P.map Pr.rf).length < 2 := by rw [List.length_map]; omega
    have hz : (P.map Pr.rf).length ≤ sizeLine := by rw [sizeLine_eq]; omega
    refine Calls.call_function_entry kind_sorted plain_sorted entry_sorted (args_sorted1 _) ?_
    unfold Builtin.«sorted»
    refine wpAny_bind (m := checkCount "sorted" 1 1 _) (wpAny_pure ?_)
    refine wpAny_bind (collect_list hl ?_ hz)
    refine wpAny_bind (wpAny_newList ?_ hz)
    have hsz : ((s.heap.push (seqObj "list" #[] 0)).update s.heap.objs.size (Obj.mapSeq (· ++ (P.map Pr.rf).toArray))).objs.size = s.heap.objs.size + 1 := by
      rw [Heap.size_update, size_push']
    have hoL : (((s.heap.push (seqObj "list" #[] 0)).update s.heap.objs.size (Obj.mapSeq (· ++ (P.map Pr.rf).toArray))).push (seqObj "list" (P.map Pr.rf).toArray 0)).get? (s.heap.objs.size + 1) = some (seqObj "list" (P.map Pr.rf).toArray 0) := by
      rw [← hsz]; exact Heap.get?_push_size _ rfl
    show wpAny _ _ _ _ _ { s with heap := ((s.heap.push (seqObj "list" #[] 0)).update s.heap.objs.size (Obj.mapSeq (· ++ (P.map Pr.rf).toArray))).push (seqObj "list" (P.map Pr.rf).toArray 0) }
    rw [hsz]
    obtain ⟨e', he'⟩ := sortedAll_at s.heap (P.map Pr.rf) (P.map Pr.rf).toArray
    have keep : ∀ b o, s.heap.get? b = some o → (sortedAll s.heap (P.map Pr.rf) (P.map Pr.rf).toArray).get? b = some o := fun b o q => sortedAll_old q
    refine wpAny_bind (wpAny_holding (wpAny_call_entry slot_list_sort ⟨_, hoL, rfl⟩ entry_list_sort (list_sort_few hoL hlen ⟨_, rfl, ?_⟩) (args_list_sort _)))
    refine wpAny_pure ⟨_, rfl, h _ e' _ P (F.kept keep) (N.kept_cons F keep (Nat.le_succ _) he') (fun q hq => Nat.ne_of_lt (Nat.lt_succ_of_lt (Heap.lt_size (N q hq).1))) (.refl _) ?_⟩
    exact pw_few (by omega)
end

/-- the turn of a block whose target is a pair of names -/
theorem turn_pair {w : World} {A : Around} {E : Value → Shared → Prop} {s : Shared} {env : Env} {h₀ : Heap} {scope : Scope} {cl : List (Str × Addr)} {a b : Str} {pa pb tp : Pos} {kk : Nat} {C T : Addr} {x y : Value} {u : Str → Option Value} {news : List (Addr × Obj)} {Q : Unit → Shared → Prop}
    (hh : A.handled = none) (ha : scope.names.lookup a = some .local) (hb : scope.names.lookup b = some .local) (hkind : scope.kind = .function)
    (F : Fr h₀ C s.heap u) (N : News h₀ C s.heap news) (ht : s.heap.get? T = some (tup [x, y]))
    (h : ∀ h' tk, Fr h₀ C h' (fun z => if z = b then some y else if z = a then some x else u z) → News h₀ C h' news → Q () { s with heap := h', toks := tk }) :
    wpAny (model Prog w) A (assign (.Tuple [.Name a pa, .Name b pb] kk tp) (compEnvC scope cl C env) (.ref T)) Q E s := by
  refine kcp_assign hh ⟨_, ht, rfl, 0, rfl⟩ (lookup_relabel_local ha) (lookup_relabel_local hb) (by simp [compEnvC, relabel, hkind]) F.ns fun h' tk hn up => ?_
  have up : ∀ c o, c ≠ C → s.heap.get? c = some o → h'.get? c = some o := up
  refine h h' tk ⟨hn, fun c o e => up c o (fun q => ?_) (F.keep c o e), F.above⟩ fun p hp => ⟨up _ _ (N p hp).2.1 (N p hp).1, (N p hp).2⟩
  have h1 := Heap.lt_size e
  rw [q] at h1
  exact absurd h1 (Nat.not_lt.mpr F.above)
-- LawForced
theorem top_LawForced : True := by
  w_top off
  trivial
local macro_rules | `(tactic| walk_at "MINE inC") => `(tactic| (
  refine wpAny_call ?_
  k_dflt (refine' enterC (by assumption) (by assumption) (by assumption) (by assumption) (by rfl) (by rfl) (by assumption) (by k_is) (by k_is) (by (show _ < recursionLimit); dsimp only [ktrTop]; omega) (by exact BindsTo.of_eq rfl) (by rfl) (by decide) ?_ (by rfl) (by rfl) (by rfl); k_whole)))

structure Kl where
  a : Addr
  us : List Value
  c : List Int
def Kl.ob (k : Kl) : Addr × Obj := (k.a, tup k.us)
def Kl.rf (k : Kl) : Value := .ref k.a
def Kl.cls (K : List Kl) : List (List Int) := K.map Kl.c
def KOk (n : Nat) (K : List Kl) : Prop := ∀ k ∈ K, IntsAre k.us k.c ∧ Small n k.c ∧ Proper k.c
def LitOk (ls : List Int) : Prop := ∀ x ∈ ls, x ≠ 0 ∧ x.natAbs ≤ 4

theorem any_mem {T : List Int} {y : Int} : T.any (fun x => x == y) = true ↔ y ∈ T := by
  rw [List.any_eq_true]
  constructor
  · rintro ⟨x, hx, e⟩
    rw [← (show x = y by simpa using e)]; exact hx
  · intro h
    exact ⟨y, h, by simp⟩
theorem any_not_mem {T : List Int} {y : Int} : T.any (fun x => x == y) = false ↔ y ∉ T := by
  rw [← any_mem]
  cases T.any (fun x => x == y) <;> simp

def FPost (cls : List (List Int)) (ls : List Int) (v : Value) (own : List (Addr × Obj)) : Prop := ∃ r, IsUP cls ls r ∧ match r with
  | none => v = .none ∧ own = []
  | some xs => ∃ D us e, v = .ref D ∧ own = [(D, listOf (List.toArray us) e)] ∧ IntsAre us xs

theorem lforced_c {w : World} {P l : Addr} {K : List Kl} {eP eL : Nat} {vs : List Value} {ls : List Int} (hK : KOk 5 K) (hKl : K.length ≤ 12) (hv : IntsAre vs ls) (hl : LitOk ls) (hll : ls.length ≤ 12) :
    Does w 187 [.ref P, .ref l] [] ((P, listOf (K.map Kl.rf).toArray eP) :: (l, listOf vs.toArray eL) :: K.map Kl.ob) 10 (FPost (Kl.cls K) ls) := by
  intro mean mg mb dp un gd cn cs a ccd cl outer A₀ base h₀ L m rest s Q E G hk F N hsep himm hd hu hret
  walk_at "MINE inC"
  intro g L' h₁ tk₁ cells FG F' N' Y G' st lt
  refine hideF (by passes_own) rfl fun AA Qf Ef hAA hAh hEf hQf => ?_
  have hgP : g.get? P = some (listOf (K.map Kl.rf).toArray eP) := st _ _ (himm _ (.head _)).1 (himm _ (.head _)).2
  have hgl : g.get? l = some (listOf vs.toArray eL) := st _ _ (himm _ (.tail _ (.head _))).1 (himm _ (.tail _ (.head _))).2
  have hgK : ∀ k ∈ K, g.get? k.a = some (tup k.us) := fun k hk' => st _ _ (himm k.ob (.tail _ (.tail _ (List.mem_map_of_mem hk')))).1 (himm _ (.tail _ (.tail _ (List.mem_map_of_mem hk')))).2
  clear F N G st himm hsep
  have ⟨B', X', T'⟩ := G'
  refine hideG fun G0 hG0 => ?_
  obtain ⟨oc, hE, dc⟩ := CellsAre.one Y
  refine hG0 ?_
  clear hG0
  subst hE
  clear Y
  simp only [List.cons_append, List.nil_append] at N'
  try dsimp only
  try k_fold
  walk_at "MINE go"
  rename_i D h2 ltD h3 oT F3 N3 dT
  have hneD : @Ne Nat (L' + 1) D := by first | exact Nat.ne_of_lt ltD | exact Nat.ne_of_lt ltD.1
  clear h2 dc ltD
  walk_at "MINE for"
  walk_at "MINE go"
  rename_i F3
  refine halt_mk ?_
  refine loop_list (σ := List Value × List Int × Nat) (fun c => [(D, listOf c.1.toArray c.2.2), (L' + 1, oT)]) (fun _ => [(Str.ofString "clauses", .ref P)])
    (fun i c => IntsAre c.1 c.2.1 ∧ c.2.1.Nodup ∧ Cons c.2.1 ∧ (∀ x ∈ c.2.1, x ∈ ls) ∧ (∀ x ∈ ls.take i, x ∈ c.2.1) ∧ c.2.1.length ≤ i) ([], [], 0) hAh (.inl ⟨_, hgl, rfl, _, rfl⟩) F3 N3 (by kst_all)
    ⟨.nil, .nil, fun _ h => (nomatch h), fun _ h => (nomatch h), fun _ h => (nomatch h), Nat.le_refl _⟩ ?turn ?done
  case turn =>
    rintro i v ⟨us, T, e⟩ u h₄ tk₄ I oI hvi hJ9 hoff F₄ N₄
    refine hideQ fun Qt hQt => ?_
    refine hideG fun G0 hG0 => ?_
    obtain ⟨hus, hnd, hcons, hsub, hcov, hlen⟩ := hJ9
    refine hG0 ?_
    clear hG0
    clear F3 N3
    refine hideG fun G0 hG0 => ?_
    obtain ⟨y, ty, rfl, hy⟩ := hv.at i v hvi
    refine hG0 ?_
    clear hG0
    have hyl : y ∈ ls := List.mem_of_getElem? hy
    have hti : ls.take (i + 1) = ls.take i ++ [y] := by rw [List.take_add_one, hy]; rfl
    dsimp only [kstB] at F₄ N₄ hus hnd hcons hsub hcov hlen hoff
    have hoff' := allNe_of hoff
    dsimp only [AllNe] at hoff'
    have hul := hus.length
    have hlv := hv.length
    have hi12 : i < vs.length := (List.getElem?_eq_some_iff.mp hvi).1
    try k_fold
    walk_at "MINE go"
    all_goals (try dsimp only [TurnEnd])
    · rename (_ = true) => h1
      walk_at "MINE out"
      refine leaveF (by assumption) (news' := []) (fun _ h => nomatch h) ?_
      intro F9 N9 S9
      exact hret _ _ _ _ ⟨none, .inl ⟨y, .base hyl, .base (hsub _ (any_mem.mp h1))⟩, rfl, rfl⟩ F9 N9 S9
    · rename (_ = true) => h1; rename (_ = false) => h2
      refine turnNext (us, T, e) F₄ N₄ hoff (by kst_all) ⟨hus, hnd, hcons, hsub, fun x hx => ?_, Nat.le_succ_of_le hlen⟩
      rw [hti, List.mem_append, List.mem_singleton] at hx
      rcases hx with hx | rfl
      · exact hcov x hx
      · exact any_mem.mp h1
    · rename ((T.any fun x => x == -y) = false) => h1; rename ((T.any fun x => x == y) = false) => h2; rename Fr _ _ _ _ => F5; rename News _ _ _ _ => N5
      try simp only [List.push_toArray] at N5
      refine turnNext (us ++ [Value.int y ty], T ++ [y], e + 1) F5 N5 (by walk_at "MINE sep") (by kst_all) ⟨hus.append (.cons _ _ .nil), nodup_snoc hnd (any_not_mem.mp h2), cons_snoc hcons (any_not_mem.mp h1) (hl y hyl).1, fun x hx => ?_, fun x hx => ?_, ?_⟩
      · rw [List.mem_append, List.mem_singleton] at hx
        rcases hx with hx | rfl
        · exact hsub x hx
        · exact hyl
      · rw [hti] at hx
        rw [List.mem_append] at hx ⊢
        exact hx.imp (hcov x) id
      · dsimp only; rw [List.length_append, List.length_singleton]; omega
  case done =>
    rintro ⟨us, T, e⟩ u h₄ tk₄ hJ9 F₄ N₄
    refine hideG fun G0 hG0 => ?_
    obtain ⟨hus, hnd, hcons, hsub, hcov, hlen⟩ := hJ9
    refine hG0 ?_
    clear hG0
    clear F3 N3
    dsimp only [kstB] at F₄ N₄ hus hnd hcons hsub hcov hlen
    rw [hv.length, List.take_length] at hcov
    try k_fold
    try dsimp only
    walk_at "MINE go"
    rename Fr _ _ _ _ => F5; rename News _ _ _ _ => N5
    have hDer0 : ∀ x ∈ T, Der (Kl.cls K) ls x := fun x hx => .base (hsub x hx)
    have hok0 : LitOk T := fun x hx => hl x (hsub x hx)
    clear F₄ N₄ hsub hlen
    refine halt_mk ?_
    refine loop_while (σ := (List Value × List Int × Nat) × Bool) (fun c => [(D, listOf c.1.1.toArray c.1.2.2), (L' + 1, oT)]) (fun c => [(Str.ofString "has_grown", .bool c.2), (Str.ofString "clauses", .ref P)])
      (fun c => IntsAre c.1.1 c.1.2.1 ∧ c.1.2.1.Nodup ∧ Cons c.1.2.1 ∧ (∀ x ∈ c.1.2.1, Der (Kl.cls K) ls x) ∧ LitOk c.1.2.1 ∧ (∀ x ∈ ls, x ∈ c.1.2.1) ∧ (c.2 = false → ∀ k ∈ K, ClosedAt c.1.2.1 k.c))
      (fun c => 2 * (8 - c.1.2.1.length) + (if c.2 = true then 1 else 0)) ((us, T, e), true) F5 N5 (by kst_all) ⟨hus, hnd, hcons, hDer0, hok0, hcov, fun h => nomatch h⟩ ?wturn
    case wturn =>
      clear F5 N5 hus hnd hcons hDer0 hok0 hcov
      rintro ⟨⟨us, T, e⟩, hg⟩ u h₄ tk₄ hJ9 F₄ N₄ Qt hQt
      refine hideG fun G0 hG0 => ?_
      obtain ⟨hus, hnd, hcons, hDer, hok, hcov, hclosed⟩ := hJ9
      refine hG0 ?_
      clear hG0
      dsimp only [kstB] at F₄ N₄ hus hnd hcons hDer hok hcov hclosed
      have hT4 := cons_len hnd hcons hok
      have hul := hus.length
      try k_fold
      walk_at "MINE go"
      · rename (hg = true) => hgt
        rename Fr _ _ _ _ => F5; rename News _ _ _ _ => N5
        clear hclosed
        walk_at "MINE for"
        walk_at "MINE go"
        rename Fr _ _ _ _ => F6
        refine halt_mk ?_
        refine loop_list (σ := (List Value × List Int × Nat) × Bool) (fun c => [(D, listOf c.1.1.toArray c.1.2.2), (L' + 1, oT)]) (fun c => [(Str.ofString "has_grown", .bool c.2), (Str.ofString "clauses", .ref P)])
          (fun i c => IntsAre c.1.1 c.1.2.1 ∧ c.1.2.1.Nodup ∧ Cons c.1.2.1 ∧ (∀ x ∈ c.1.2.1, Der (Kl.cls K) ls x) ∧ LitOk c.1.2.1 ∧ (∀ x ∈ ls, x ∈ c.1.2.1) ∧ T.length ≤ c.1.2.1.length ∧ (c.2 = true → T.length < c.1.2.1.length) ∧ (c.2 = false → ∀ k ∈ K.take i, ClosedAt c.1.2.1 k.c))
          ((us, T, e), false) hAh (.inl ⟨_, hgP, rfl, _, rfl⟩) F6 N5 (by kst_all) ⟨hus, hnd, hcons, hDer, hok, hcov, Nat.le_refl _, fun h => (nomatch h), fun _ _ h => (nomatch h)⟩ ?turn ?done
        case done =>
          rintro ⟨⟨us₂, T₂, e₂⟩, hg₂⟩ u₂ h₅ tk₅ hJ9 F₇ N₇
          refine hideG fun G0 hG0 => ?_
          obtain ⟨hus₂, hnd₂, hcons₂, hDer₂, hok₂, hcov₂, hle₂, hgr₂, hcl₂⟩ := hJ9
          refine hG0 ?_
          clear hG0
          rw [List.length_map, List.take_length] at hcl₂
          clear F6 N5
          dsimp only [kstB] at F₇ N₇ hus₂ hnd₂ hcons₂ hDer₂ hok₂ hcov₂ hle₂ hgr₂ hcl₂
          try k_fold
          try dsimp only
          walk_at "MINE go"
          try dsimp only [WTurnEnd]
          have hT24 := cons_len hnd₂ hcons₂ hok₂
          refine wturnNext ((us₂, T₂, e₂), hg₂) F₇ N₇ (by kst_all) ⟨hus₂, hnd₂, hcons₂, hDer₂, hok₂, hcov₂, hcl₂⟩ ?_
          dsimp only
          rw [if_pos hgt]
          cases hg₂ with
          | true => have := hgr₂ rfl; simp; omega
          | false => simp; omega
        case turn =>
          rintro i v ⟨⟨us₂, T₂, e₂⟩, hg₂⟩ u₂ h₅ tk₅ I oI hvi hJ9 hoff F₇ N₇
          refine hideQ fun Qt hQt => ?_
          refine hideG fun G0 hG0 => ?_
          obtain ⟨hus₂, hnd₂, hcons₂, hDer₂, hok₂, hcov₂, hle₂, hgr₂, hcl₂⟩ := hJ9
          refine hG0 ?_
          clear hG0
          clear F6 N5
          dsimp only [kstB] at F₇ N₇ hus₂ hnd₂ hcons₂ hDer₂ hok₂ hcov₂ hle₂ hgr₂ hcl₂ hoff
          rw [List.getElem?_map] at hvi
          refine hideG fun G0 hG0 => ?_
          obtain ⟨k, hk1, rfl⟩ := Option.map_eq_some_iff.mp hvi
          have hkK : k ∈ K := List.mem_of_getElem? hk1
          have hti : K.take (i + 1) = K.take i ++ [k] := by rw [List.take_add_one, hk1]; rfl
          have hT24 := cons_len hnd₂ hcons₂ hok₂
          have hul₂ := hus₂.length
          obtain ⟨hku, hks, hkp⟩ := hK k hkK
          refine hG0 ?_
          clear hG0
          have hkl := hku.length
          have hkl2 := hks.1
          have hgk := hgK k hkK
          have hoff' := allNe_of hoff
          dsimp only [AllNe] at hoff'
          try k_fold
          dsimp only [Kl.rf] at F₇
          walk_at "MINE go"
          refine halt_mk ?_
          refine comp_tuple (σ := Unit) (fun _ => [(I, oI), (D, listOf us₂.toArray e₂), (L' + 1, oT)]) (fun j ys _ => IntsAre ys ((k.c.take j).filter fun x => !(T₂.any fun z => z == -x))) () hAh (.inl ⟨_, hgk, rfl, 0, rfl⟩) (by rw [sizeLine_eq]; omega) (by decide) rfl F₇ N₇ .nil (fun _ _ => rfl) ?cturn (rr_assign rfl rfl ?cdone)
          case cturn =>
            rintro j v ys ⟨⟩ u₃ h₆ tk₆ C I₂ D₂ nD oL oI₂ E₂ hv₂ hlen₂ hys hoffC hbC F₈ N₈ hL
            clear F₇ N₇
            refine hideG fun G0 hG0 => ?_
            obtain ⟨y, ty, rfl, hy⟩ := hku.at j v hv₂
            refine hG0 ?_
            clear hG0
            have htj : k.c.take (j + 1) = k.c.take j ++ [y] := by rw [List.take_add_one, hy]; rfl
            refine turn_name (by decide) rfl F₈ N₈ fun h₇ tk₇ F₉ N₉ => wpAny_tests_one ?_
            clear F₈ N₈
            simp only [List.cons_append, List.nil_append] at N₉
            try k_fold
            walk_at "MINE go"
            · rename ((T₂.any fun x => x == -y) = true) => h1
              rename Fr _ _ _ _ => F10; rename News _ _ _ _ => N10
              refine eltEnd (led := fun _ : Unit => [(I, oI), (D, listOf us₂.toArray e₂), (L' + 1, oT)]) () F10 N10 hoffC ?_
              rw [htj, List.filter_append, List.filter_cons_of_neg (by rw [h1]; decide), List.filter_nil, List.append_nil]
              exact hys
            · rename ((T₂.any fun x => x == -y) = false) => h1
              rename Fr _ _ _ _ => F10; rename News _ _ _ _ => N10
              refine eltEnd (led := fun _ : Unit => [(I, oI), (D, listOf us₂.toArray e₂), (L' + 1, oT)]) () F10 N10 hoffC ?_
              rw [htj, List.filter_append, List.filter_cons_of_pos (by rw [h1]; decide), List.filter_nil]
              exact hys.append (.cons _ _ .nil)
          case cdone =>
            intro D₂ c' h₆ tk₆ ys nD hys F₈ N₈ hD₂
            clear F₇ N₇
            rw [hkl, List.take_length] at hys
            obtain ⟨lf, hlf⟩ : ∃ lf, lf = k.c.filter fun x => !T₂.any fun z => z == -x := ⟨_, rfl⟩
            rw [← hlf] at hys
            have hyl := hys.length
            have hlfl : lf.length ≤ 5 := by rw [hlf]; exact Nat.le_trans (List.length_filter_le _ _) hkl2
            have hmem : ∀ x, x ∈ lf ↔ x ∈ k.c ∧ -x ∉ T₂ := fun x => by
              rw [hlf, List.mem_filter]
              by_cases hx : -x ∈ T₂
              · rw [any_mem.mpr hx]; simp [hx]
              · rw [any_not_mem.mpr hx]; simp [hx]
            have hD₂' := allNe_of hD₂
            dsimp only [AllNe] at hD₂'
            try k_fold
            try dsimp only
            walk_at "MINE go"
            · try dsimp only [TurnEnd, WTurnEnd]
              walk_at "MINE out"
              refine leaveF (by assumption) (news' := []) (fun _ h => nomatch h) ?_
              intro F9 N9 S9
              refine hret _ _ _ _ ⟨none, .inr ⟨k.c, List.mem_map_of_mem hkK, fun x hx => ?_⟩, rfl, rfl⟩ F9 N9 S9
              rename (decide (lf = []) = true) => h1
              have h2 : lf = [] := by simpa using h1
              refine hDer₂ _ (Decidable.byContradiction fun hn => ?_)
              have := (hmem x).mpr ⟨hx, hn⟩
              rw [h2] at this
              cases this
            · rename ((ys.length : Int) = 1) => h1
              rename ((T₂.any fun x => x == lf.getD (Int.toNat 0) 0) = true) => h2
              rename Fr _ _ _ _ => F10; rename News _ _ _ _ => N10
              obtain ⟨x, hx⟩ := len_one (lf := lf) (by omega)
              try dsimp only [TurnEnd]
              refine turnNext ((us₂, T₂, e₂), hg₂) F10 (fun p hp => N10 p (.tail _ (.tail _ hp))) hoff (by kst_all) ⟨hus₂, hnd₂, hcons₂, hDer₂, hok₂, hcov₂, hle₂, hgr₂, fun e => ?_⟩
              have h3 := any_mem.mp h2
              rw [hx] at h3
              rw [hti]
              exact List.forall_mem_append.mpr ⟨hcl₂ e, List.forall_mem_cons.mpr ⟨closed_one hmem hx h3, List.forall_mem_nil _⟩⟩
            · rename ((ys.length : Int) = 1) => h1
              rename ((T₂.any fun x => x == lf.getD (Int.toNat 0) 0) = false) => h2
              rename Fr _ _ _ _ => F10; rename News _ _ _ _ => N10
              obtain ⟨x, hx⟩ := len_one (lf := lf) (by omega)
              try dsimp only [TurnEnd]
              try simp only [List.push_toArray] at N10
              have h3 := any_not_mem.mp h2
              rw [hx] at h3
              have h3 : x ∉ T₂ := h3
              have hxm := (hmem x).mp (by rw [hx]; simp)
              refine turnNext ((_, T₂ ++ [x], _), true) F10 (fun p hp => N10 p (by revert p; walk_at "MINE sub")) (by walk_at "MINE sep") (by kst_all) ⟨?_, nodup_snoc hnd₂ h3, cons_snoc hcons₂ hxm.2 (hkp.2 x hxm.1), ?_, ?_, fun y hy => List.mem_append_left _ (hcov₂ y hy), ?_, ?_, fun e => nomatch e⟩
              · dsimp only
                have e9 : lf.getD (Int.toNat 0) 0 = x := by rw [hx]; rfl
                rw [e9]
                exact hus₂.append (.cons _ _ .nil)
              · refine List.forall_mem_append.mpr ⟨hDer₂, List.forall_mem_cons.mpr ⟨.unit (List.mem_map_of_mem hkK) hxm.1 fun y hy hyx => hDer₂ _ (Decidable.byContradiction fun hn => ?_), List.forall_mem_nil _⟩⟩
                have := (hmem y).mpr ⟨hy, hn⟩
                rw [hx, List.mem_singleton] at this
                exact hyx this
              · exact List.forall_mem_append.mpr ⟨hok₂, List.forall_mem_cons.mpr ⟨⟨hkp.2 x hxm.1, hks.2 x hxm.1⟩, List.forall_mem_nil _⟩⟩
              · dsimp only; rw [List.length_append, List.length_singleton]; omega
              · intro _; dsimp only; rw [List.length_append, List.length_singleton]; omega
            · rename ((ys.length : Int) ≠ 1) => h1
              rename (decide (lf = []) = false) => h2
              rename Fr _ _ _ _ => F10; rename News _ _ _ _ => N10
              try dsimp only [TurnEnd]
              refine turnNext ((us₂, T₂, e₂), hg₂) F10 (fun p hp => N10 p (.tail _ (.tail _ hp))) hoff (by kst_all) ⟨hus₂, hnd₂, hcons₂, hDer₂, hok₂, hcov₂, hle₂, hgr₂, fun e => ?_⟩
              rw [hti]
              exact List.forall_mem_append.mpr ⟨hcl₂ e, List.forall_mem_cons.mpr ⟨closed_many hmem (by rw [hlf]; exact (proper_nodup hkp).filter _) (by simpa using h2) (by omega), List.forall_mem_nil _⟩⟩
      · rename (hg = false) => hgf
        rename Fr _ _ _ _ => F5; rename News _ _ _ _ => N5
        have hcl := hclosed hgf
        clear hclosed
        refine hideG fun G0 hG0 => ?_
        obtain ⟨hncl, hall⟩ := closed_up (cls := Kl.cls K) hcov hDer hcons (fun c hc => by obtain ⟨k, hk', rfl⟩ := List.mem_map.mp hc; exact hcl k hk')
        refine hG0 ?_
        clear hG0
        try dsimp only
        walk_at "MINE go"
        rename Fr _ _ _ _ => F5
        refine halt_mk ?_
        refine comp_list (σ := List Pr) (fun c => (D, listOf us.toArray e) :: (L' + 1, oT) :: c.map Pr.ob) (fun i ys c => ys = c.map Pr.rf ∧ c.map Pr.x = T.take i) [] hAh
          (.inr ⟨listOf us.toArray e, rfl, ⟨_, rfl⟩, fun _ _ _ _ => .head _⟩) (by rw [sizeLine_eq]; omega) (by decide) rfl F5 N5 ⟨rfl, rfl⟩ (.inl fun _ _ => rfl) ?pturn (rr_eval ?pdone)
        case pturn =>
          rintro j v ys c u₃ h₆ tk₆ C I₂ D₂ nD oL oI₂ E₂ hv₂ hlen₂ ⟨hys, hcx⟩ hoffC hbC F₈ N₈ hL
          clear F5 N5
          refine hideG fun G0 hG0 => ?_
          obtain ⟨y, ty, rfl, hy⟩ := hus.at j v hv₂
          refine hG0 ?_
          clear hG0
          have htj : T.take (j + 1) = T.take j ++ [y] := by rw [List.take_add_one, hy]; rfl
          refine turn_name (by decide) rfl F₈ N₈ fun h₇ tk₇ F₉ N₉ => wpAny_tests_nil ?_
          clear F₈ N₈
          simp only [List.cons_append, List.nil_append] at N₉
          simp only [if_true]
          try k_fold
          walk_at "MINE go"
          (try k_unfold)
          rename Fr _ _ _ _ => F10; rename News _ _ _ _ => N10
          rename_i tA _ D₅ _ l5
          refine eltEnd (led := fun c : List Pr => (D, listOf us.toArray e) :: (L' + 1, oT) :: c.map Pr.ob) (c ++ [⟨D₅, y, tA, ty⟩]) F10 ?_ ?_ ⟨by rw [hys, List.map_append]; rfl, by rw [List.map_append, hcx, htj]; rfl⟩
          · intro p hp
            rw [List.mem_append] at hp
            rcases hp with hp | hp
            · exact N10 p (by revert p; walk_at "MINE sub")
            · rcases List.mem_cons.mp hp with rfl | hp
              · exact N10 _ (by simp)
              · rcases List.mem_cons.mp hp with rfl | hp
                · exact N10 _ (by simp)
                · rw [List.map_append, List.mem_append] at hp
                  rcases hp with hp | hp
                  · exact N10 p (by simp [hp])
                  · rw [List.mem_singleton.mp hp]; exact N10 _ (.head _)
          · intro p hp q hq
            rcases List.mem_cons.mp hq with rfl | hq
            · exact hoffC p hp _ (.head _)
            · rcases List.mem_cons.mp hq with rfl | hq
              · exact hoffC p hp _ (.tail _ (.head _))
              · rw [List.map_append, List.mem_append] at hq
                rcases hq with hq | hq
                · exact hoffC p hp _ (.tail _ (.tail _ hq))
                · rw [List.mem_singleton.mp hq]
                  have l7 : p.1 < D₅ := by
                    rcases List.mem_cons.mp hp with rfl | hp
                    · exact l5.1
                    · rcases List.mem_cons.mp hp with rfl | hp
                      · exact l5.2.1
                      · rw [List.mem_singleton.mp hp]; exact l5.2.2.1
                  first | exact Nat.ne_of_lt l7 | exact Nat.ne_of_lt l7.1
        case pdone =>
          intro D₂ c h₆ tk₆ ys nD ⟨hys, hcx⟩ F₈ N₈ hD₂
          clear F5 N5
          rw [hul, List.take_length] at hcx
          subst hys
          try k_fold
          try dsimp only
          walk_at "MINE go"
          have hcl4 : c.length ≤ 4 := by have := congrArg List.length hcx; rw [List.length_map] at this; omega
          have hcok : ∀ p ∈ c, p.x ≠ 0 ∧ p.x.natAbs ≤ 4 := fun p hp => hok _ (hcx ▸ List.mem_map_of_mem hp)
          have hcnd : (c.map fun p => p.x.natAbs).Nodup := by
            have h1 : (T.map Int.natAbs).Nodup := by
              rw [List.nodup_iff_pairwise_ne, List.pairwise_map]
              exact (List.nodup_iff_pairwise_ne.mp hnd).imp_of_mem fun {a b} ha hb hab e => hab (natAbs_inj hcons ha hb e)
            rw [← hcx, List.map_map] at h1
            exact h1
          refine pairs_sorted F₈ N₈ (.head _) (fun p hp => .tail _ (.tail _ (.tail _ (List.mem_map_of_mem hp)))) hcl4 hcok hcnd ?_
          intro D₆ e₆ h₇ c' F₉ N₉ hD₆ hperm hpw
          clear F₈ N₈
          refine halt_mk ?_
          have hc4' : (c'.map Pr.rf).length ≤ 4 := by rw [List.length_map, hperm.length_eq]; exact hcl4
          refine comp_list (σ := Unit) (vs := c'.map Pr.rf) (fun _ => (D₆, listOf (c'.map Pr.rf).toArray e₆) :: (D₂, listOf (c.map Pr.rf).toArray nD) :: (D, listOf us.toArray e) :: (L' + 1, oT) :: c.map Pr.ob) (fun i ys _ => IntsAre ys ((c'.take i).map Pr.x)) () hAh
            (.inr ⟨_, rfl, ⟨_, rfl⟩, fun _ _ _ _ => .head _⟩) (by rw [sizeLine_eq]; omega) (by decide) rfl F₉ N₉ .nil (.inr ⟨⟨_, _, _, rfl⟩, fun v hv => by obtain ⟨p, _, rfl⟩ := List.mem_map.mp hv; exact ⟨_, rfl⟩⟩) ?qturn (rr_eval ?qdone)
          case qturn =>
            rintro j v ys ⟨⟩ u₃ h₈ tk₈ C I₂ D₇ nD₇ oL oI₂ E₂ hv₂ hlen₂ hys hoffC hbC F10 N10 hL
            clear F₉ N₉
            rw [List.getElem?_map] at hv₂
            refine hideG fun G0 hG0 => ?_
            obtain ⟨p, hp1, rfl⟩ := Option.map_eq_some_iff.mp hv₂
            refine hG0 ?_
            clear hG0
            have hpc : p ∈ c' := List.mem_of_getElem? hp1
            have htj : c'.take (j + 1) = c'.take j ++ [p] := by rw [List.take_add_one, hp1]; rfl
            simp only [List.cons_append, List.nil_append] at N10
            have hpo : p.ob ∈ c.map Pr.ob := List.mem_map_of_mem (hperm.mem_iff.mp hpc)
            have N10' := N10
            refine turn_pair (x := .int (if p.x < 0 then -p.x else p.x) p.t1) (y := .int p.x p.t2) rfl (by decide) (by decide) rfl F10 N10 (N10 p.ob (.tail _ (.tail _ (.tail _ (.tail _ (.tail _ (.tail _ (.tail _ hpo)))))))).1 fun h₉ tk₉ F11 N11 => wpAny_tests_nil ?_
            clear F10 N10 N10'
            simp only [if_true]
            try k_fold
            walk_at "MINE go"
            refine eltEnd (led := fun _ : Unit => _) () F11 N11 hoffC ?_
            rw [htj, List.map_append]
            exact hys.append (.cons _ _ .nil)
          case qdone =>
            intro D₇ cc h₈ tk₈ ys nD₇ hys F10 N10 hD₇
            clear F₉ N₉
            rw [List.length_map, List.take_length] at hys
            try k_fold
            try dsimp only
            walk_at "MINE go"
            walk_at "MINE out"
            refine leaveF (by assumption) (news' := [(D₇, listOf ys.toArray nD₇)]) (fun p hp => N10 p (by rw [List.mem_singleton.mp hp]; exact .head _)) ?_
            intro F9 N9 S9
            refine hret _ _ _ _ ⟨some (c'.map Pr.x), ⟨hncl, fun x => ?_, ?_⟩, D₇, ys, nD₇, rfl, rfl, hys⟩ F9 N9 S9
            · rw [← hall x, ← hcx]
              exact (hperm.map Pr.x).mem_iff
            · unfold Rises
              rw [List.pairwise_map]
              exact hpw
-- LawFirst
theorem top_LawFirst : True := by
  w_top off
  trivial
theorem subL {w : World} {A : Around} {E : Value → Shared → Prop} {s : Shared} {value slice : PySem.Expr} {l : Addr} {items : Array Value} {k : Int} {u : Tok} {v : Value} {Q : Value → Shared → Prop} (hl : s.heap.IsList l items) (hx : items[k.toNat]? = some v) (h0 : 0 ≤ k) (hhi : k < 2 ^ 63) (h : Q v s)
    (hs : subscripted slice false (.ref l) (.int k u) = operate [.ref l, .int k u] (getItem (.ref l) (.int k u)) := by with_unfolding_all rfl) :
    wpAny (model Prog w) A (subscriptTail value slice (.ref l) (.int k u)) Q E s :=
  tail_any hl.typeIs slot_list_getitem.lookup (wpAny_getItem_list hl h0 hhi hx h) hs
local macro_rules | `(tactic| walk_at "subscriptTail") => `(tactic| (k_here; (with_reducible show wpAny _ _ (subscriptTail _ _ (Value.ref _) (Value.int _ _)) _ _ _); k_dflt (refine' subL (by walk_at "MINE isL") (by assumption) (by omega) (by omega) ?_; k_whole)))
def neg (c : List Int) : List Int := c.map fun x => -x

/-- the place of the first that is no clause or does not follow -/
inductive FW : List (List Int) → List (List Int) → Nat → Int → Prop
  | nil {known i} : FW known [] i (-1)
  | bad {known m r i} : ¬ Proper m → FW known (m :: r) i i
  | lone {known m r i xs} : Proper m → IsUP known (neg m) (some xs) → FW known (m :: r) i i
  | step {known m r i n} : Proper m → IsUP known (neg m) none → FW (known ++ [m]) r (i + 1) n → FW known (m :: r) i n
theorem fw_unique {known ms : List (List Int)} {i : Nat} {n n' : Int} (h : FW known ms i n) (h' : FW known ms i n') : n = n' := by
  induction h with
  | nil => cases h'; rfl
  | bad hb => cases h' with
    | bad _ => rfl
    | lone hp _ => rfl
    | step hp _ _ => exact absurd hp hb
  | lone hp hu => cases h' with
    | bad hb => rfl
    | lone _ _ => rfl
    | step _ hu' _ => exact absurd (isUP_unique hu hu') (by simp)
  | step hp hu _ ih => cases h' with
    | bad hb => exact absurd hp hb
    | lone _ hu' => exact absurd (isUP_unique hu hu') (by simp)
    | step _ _ h' => exact ih h'

/-- clauses that may be none -/
def MOk (n : Nat) (M : List Kl) : Prop := ∀ k ∈ M, IntsAre k.us k.c ∧ Small n k.c

theorem lfirst_c {w : World} {P S : Addr} {K M : List Kl} {eP eS : Nat} (hK : KOk 5 K) (hM : MOk 5 M) (hKl : K.length ≤ 7) (hMl : M.length ≤ 4) :
    Does w 192 [.ref P, .ref S] [] ((P, listOf (K.map Kl.rf).toArray eP) :: (S, listOf (M.map Kl.rf).toArray eS) :: (K.map Kl.ob ++ M.map Kl.ob)) 20
      (fun v own => own = [] ∧ ∃ n t, v = .int n t ∧ FW (Kl.cls K) (Kl.cls M) 0 n) := by
  intro mean mg mb dp un gd cn cs a ccd cl outer A₀ base h₀ L m rest s Q E G hk F N hsep himm hd hu hret
  walk_at "MINE in"
  intro g L' h₁ tk₁ FG F' N' G' st lt
  refine hideF (by passes_own) rfl fun AA Qf Ef hAA hAh hEf hQf => ?_
  have hgP : g.get? P = some (listOf (K.map Kl.rf).toArray eP) := st _ _ (himm _ (.head _)).1 (himm _ (.head _)).2
  have hgS : g.get? S = some (listOf (M.map Kl.rf).toArray eS) := st _ _ (himm _ (.tail _ (.head _))).1 (himm _ (.tail _ (.head _))).2
  have hgK : ∀ k ∈ K, g.get? k.a = some (tup k.us) := fun k hk' => st _ _ (himm k.ob (.tail _ (.tail _ (List.mem_append_left _ (List.mem_map_of_mem hk'))))).1 (himm _ (.tail _ (.tail _ (List.mem_append_left _ (List.mem_map_of_mem hk'))))).2
  have hgM : ∀ k ∈ M, g.get? k.a = some (tup k.us) := fun k hk' => st _ _ (himm k.ob (.tail _ (.tail _ (List.mem_append_right _ (List.mem_map_of_mem hk'))))).1 (himm _ (.tail _ (.tail _ (List.mem_append_right _ (List.mem_map_of_mem hk'))))).2
  clear F N G st himm hsep
  have ⟨B', X', T'⟩ := G'
  have hLP : g.IsList P (K.map Kl.rf).toArray := ⟨_, hgP, rfl, _, rfl⟩
  have hLS : g.IsList S (M.map Kl.rf).toArray := ⟨_, hgS, rfl, _, rfl⟩
  have hz1 : (K.map Kl.rf).length ≤ 7 := by rw [List.length_map]; exact hKl
  have hz2 : (M.map Kl.rf).length ≤ 4 := by rw [List.length_map]; exact hMl
  try dsimp only
  try k_fold
  walk_at "MINE go"
  rename_i D eD _ _ _ _ _
  walk_at "MINE for"
  walk_at "MINE go"
  rename Fr _ _ _ _ => F3; rename News _ _ _ _ => N3; rename IsRange _ _ _ _ _ _ _ _ => R
  refine halt_mk ?_
  refine loop_range (σ := List Kl × Nat) (n := M.length) (fun c => [(D, listOf (c.1.map Kl.rf).toArray c.2)]) (fun _ => [(Str.ofString "some", .ref S), (Str.ofString "known", .ref D)])
    (fun i c => c.1 = K ++ M.take i ∧ KOk 5 c.1 ∧ (∀ n, FW (Kl.cls c.1) (Kl.cls (M.drop i)) i n → FW (Kl.cls K) (Kl.cls M) 0 n)) (K, eD) hAh R ?ks ?kn F3 N3 (by kst_all) ⟨by simp, hK, fun n h => h⟩ ?turn ?done
  case ks => exact small_one (by omega) (by omega) (by omega) (by omega)
  case kn => rw [rangeSize_nat]; simp
  case turn =>
    rintro i ti ⟨Kn, e⟩ u h₄ tk₄ I oI hi hJ9 hoff F₄ N₄
    refine hideQ fun Qt hQt => ?_
    refine hideG fun G0 hG0 => ?_
    obtain ⟨hKn, hok, hfw⟩ := hJ9
    refine hG0 ?_
    clear hG0
    clear F3 N3 R
    dsimp only [kstB] at F₄ N₄ hKn hok hfw hoff
    replace hoff := allNe_of hoff
    dsimp only [AllNe] at hoff
    obtain ⟨k, hk1⟩ : ∃ k, M[i]? = some k := ⟨_, List.getElem?_eq_getElem hi⟩
    have hkM : k ∈ M := List.mem_of_getElem? hk1
    have hgk := hgM k hkM
    have hx9 : (M.map Kl.rf).toArray[(0 + (i : Int)).toNat]? = some (.ref k.a) := by
      rw [show (0 + (i : Int)).toNat = i by omega]; simp [hk1, Kl.rf]
    obtain ⟨hku, hks⟩ := hM k hkM
    try k_fold
    have hgKn : ∀ q ∈ Kn, g.get? q.a = some (tup q.us) := by
      rw [hKn]
      exact List.forall_mem_append.mpr ⟨hgK, fun q hq => hgM q (List.mem_of_mem_take hq)⟩
    have hKnl : Kn.length ≤ 12 := by rw [hKn, List.length_append, List.length_take]; omega
    have hdrop : Kl.cls (M.drop i) = k.c :: Kl.cls (M.drop (i + 1)) := by
      have h1 : M.drop i = k :: M.drop (i + 1) := by
        rw [List.drop_eq_getElem_cons hi]
        rw [List.getElem?_eq_getElem hi] at hk1
        rw [Option.some.inj hk1]
      rw [h1]; rfl
    have hkl := hku.length
    have hkl2 := hks.1
    walk_at "MINE go"
    refine Does.useA hAA [(I, oI), (D, listOf (Kn.map Kl.rf).toArray e)] (lisclause_c hku hks) G' rfl F₄ N₄ (by kst_inAny) (by walk_at "MINE sep") (by walk_at "MINE imm") (by walk_at "MINE room") (by walk_at "MINE room") ?_
    rintro v9 own9 h₅ tk₅ hJ9 F₅ N₅ S₅
    refine hideG fun G0 hG0 => ?_
    obtain ⟨b, rfl, rfl, hb⟩ := hJ9
    refine hG0 ?_
    clear hG0
    clear F₄ N₄ S₅
    simp only [List.nil_append] at N₅
    try dsimp only
    try k_fold
    walk_at "MINE go"
    · have hprop : Proper k.c := hb.mp (by assumption)
      rename Fr _ _ _ _ => F₅
      refine halt_mk ?_
      refine comp_tuple (σ := Unit) (fun _ => [(I, oI), (D, listOf (Kn.map Kl.rf).toArray e)]) (fun j ys _ => IntsAre ys (neg (k.c.take j))) () hAh (.inl ⟨_, hgk, rfl, 0, rfl⟩) (by rw [sizeLine_eq]; omega) (by decide) rfl F₅ N₅ .nil (fun _ _ => rfl) ?cturn (rr_eval ?cdone)
      case cturn =>
        rintro j v ys ⟨⟩ u₃ h₆ tk₆ C I₂ D₂ nD oL oI₂ E₂ hv₂ hlen₂ hys hoffC hbC F₈ N₈ hL
        clear F₅ N₅
        refine hideG fun G0 hG0 => ?_
        obtain ⟨y, ty, rfl, hy⟩ := hku.at j v hv₂
        refine hG0 ?_
        clear hG0
        have htj : k.c.take (j + 1) = k.c.take j ++ [y] := by rw [List.take_add_one, hy]; rfl
        refine turn_name (by decide) rfl F₈ N₈ fun h₇ tk₇ F₉ N₉ => wpAny_tests_nil ?_
        clear F₈ N₈
        simp only [List.cons_append, List.nil_append] at N₉
        simp only [if_true]
        try k_fold
        walk_at "MINE go"
        refine eltEnd (led := fun _ : Unit => _) () F₉ N₉ hoffC ?_
        rw [htj, neg, List.map_append]
        exact hys.append (.cons _ _ .nil)
      case cdone =>
        intro D₂ c' h₆ tk₆ ys nD hys F₈ N₈ hD₂
        clear F₅ N₅
        rw [hkl, List.take_length] at hys
        have hD₂' := allNe_of hD₂
        dsimp only [AllNe] at hD₂'
        have hnl : (neg k.c).length ≤ 12 := by rw [neg, List.length_map]; omega
        have hnok : LitOk (neg k.c) := fun x hx => by
          refine hideG fun G0 hG0 => ?_
          obtain ⟨y, hy, rfl⟩ := List.mem_map.mp hx
          refine hG0 ?_
          clear hG0
          have h1 := hprop.2 y hy
          have h2 := hks.2 y hy
          omega
        try k_fold
        try dsimp only
        walk_at "MINE go"
        refine Does.useA hAA [(D₂, listOf ys.toArray nD), (I, oI), (D, listOf (Kn.map Kl.rf).toArray e)] (lforced_c (eP := e) (eL := nD) hok hKnl hys hnok hnl) G' rfl F₈ N₈ (by kst_inAny) (by walk_at "MINE sep") ?imm (by walk_at "MINE room") (by walk_at "MINE room") ?_
        case imm =>
          refine List.forall_mem_cons.mpr ⟨.inr (by simp), List.forall_mem_cons.mpr ⟨.inr (by simp), fun p hp => ?_⟩⟩
          refine hideG fun G0 hG0 => ?_
          obtain ⟨q, hq, rfl⟩ := List.mem_map.mp hp
          refine hG0 ?_
          clear hG0
          exact .inl (hgKn q hq)
        rintro v own9 h₇ tk₇ hJ9 F₉ N₉ S₉
        refine hideG fun G0 hG0 => ?_
        obtain ⟨r, hup, hr⟩ := hJ9
        refine hG0 ?_
        clear hG0
        clear F₈ N₈
        cases r with
        | none =>
          obtain ⟨rfl, rfl⟩ := hr
          simp only [List.nil_append] at N₉
          try dsimp only
          try k_fold
          walk_at "MINE go"
          try dsimp only [TurnEnd]
          rename Fr _ _ _ _ => F10; rename News _ _ _ _ => N10
          have e1 : (Kn.map Kl.rf).toArray.push (.ref k.a) = ((Kn ++ [k]).map Kl.rf).toArray := by simp [Kl.rf]
          have e2 : Kn.map Kl.rf ++ [Value.ref k.a] = (Kn ++ [k]).map Kl.rf := by simp [Kl.rf]
          first | rw [e1] at N10 | rw [e2] at N10
          refine turnNext (Kn ++ [k], e + 1) F10 (fun p hp => N10 p (.tail _ hp)) (by walk_at "MINE sep") (by kst_all) ⟨?_, ?_, fun n hn => hfw n ?_⟩
          · dsimp only
            rw [hKn, List.append_assoc, List.take_add_one, hk1]; rfl
          · exact List.forall_mem_append.mpr ⟨hok, List.forall_mem_cons.mpr ⟨⟨hku, hks, hprop⟩, List.forall_mem_nil _⟩⟩
          · rw [hdrop]
            refine .step hprop hup ?_
            have e2 : Kl.cls (Kn ++ [k]) = Kl.cls Kn ++ [k.c] := by simp [Kl.cls]
            rw [← e2]
            exact hn
        | some xs =>
          refine hideG fun G0 hG0 => ?_
          obtain ⟨D₃, us₃, e₃, rfl, rfl, hus₃⟩ := hr
          refine hG0 ?_
          clear hG0
          simp only [List.cons_append, List.nil_append] at N₉
          try dsimp only
          try k_fold
          walk_at "MINE go"
          try dsimp only [TurnEnd]
          walk_at "MINE out"
          refine leaveF (by assumption) (news' := []) (fun _ h => nomatch h) ?_
          intro F9 N9 S9
          refine hret _ _ _ _ ⟨rfl, _, _, rfl, hfw _ ?_⟩ F9 N9 S9
          rw [hdrop, show (0 + (i : Int)) = i by omega]
          exact .lone hprop hup
    · have hprop : ¬ Proper k.c := fun hp => by have := hb.mpr hp; simp_all
      try dsimp only [TurnEnd]
      walk_at "MINE out"
      refine leaveF (by assumption) (news' := []) (fun _ h => nomatch h) ?_
      intro F9 N9 S9
      refine hret _ _ _ _ ⟨rfl, _, _, rfl, hfw _ ?_⟩ F9 N9 S9
      rw [hdrop, show (0 + (i : Int)) = i by omega]
      exact .bad hprop
  case done =>
    rintro ⟨Kn, e⟩ u h₄ tk₄ hJ9 F₄ N₄
    refine hideG fun G0 hG0 => ?_
    obtain ⟨hKn, hok, hfw⟩ := hJ9
    refine hG0 ?_
    clear hG0
    clear F3 N3
    dsimp only [kstB] at F₄ N₄ hKn hok hfw
    try k_fold
    try dsimp only
    walk_at "MINE go"
    try dsimp only
    walk_at "MINE out"
    refine leaveF (by assumption) (news' := []) (fun _ h => nomatch h) ?_
    intro F9 N9 S9
    refine hret _ _ _ _ ⟨rfl, _, _, rfl, hfw _ ?_⟩ F9 N9 S9
    rw [List.drop_length]
    exact .nil
-- Steps
theorem top_Steps : True := by
  w_top off
  trivial
-- the pure side
def heldOf (T c : List Int) : Nat := (c.filter fun l => decide (l ∈ T)).length
def openOf (T c : List Int) : Nat := (c.filter fun l => decide (-l ∉ T)).length
def idxFrom (l : Int) : Nat → List Kl → List Int
  | _, [] => []
  | i, k :: r => if l ∈ k.c then (i : Int) :: idxFrom l (i + 1) r else idxFrom l (i + 1) r
def idx (K : List Kl) (l : Int) : List Int := idxFrom l 0 K

theorem idxFrom_mem {l : Int} : ∀ {K : List Kl} {i : Nat} {n : Int}, n ∈ idxFrom l i K ↔ ∃ (j : Nat) (k : Kl), K[j]? = some k ∧ l ∈ k.c ∧ n = ((i + j : Nat) : Int)
  | [], i, n => by simp [idxFrom]
  | k :: r, i, n => by
    unfold idxFrom
    have ih := @idxFrom_mem l r (i + 1) n
    split
    · rename_i hl
      rw [List.mem_cons, ih]
      constructor
      · rintro (rfl | ⟨j, k', h1, h2, rfl⟩)
        · exact ⟨0, k, rfl, hl, by simp⟩
        · exact ⟨j + 1, k', by simpa using h1, h2, by omega⟩
      · rintro ⟨j, k', h1, h2, rfl⟩
        cases j with
        | zero => left; rfl
        | succ j => right; exact ⟨j, k', by simpa using h1, h2, by omega⟩
    · rename_i hl
      rw [ih]
      constructor
      · rintro ⟨j, k', h1, h2, rfl⟩
        exact ⟨j + 1, k', by simpa using h1, h2, by omega⟩
      · rintro ⟨j, k', h1, h2, rfl⟩
        cases j with
        | zero => simp at h1; subst h1; exact absurd h2 hl
        | succ j => exact ⟨j, k', by simpa using h1, h2, by omega⟩
theorem idx_mem {K : List Kl} {l n : Int} : n ∈ idx K l ↔ ∃ (j : Nat) (k : Kl), K[j]? = some k ∧ l ∈ k.c ∧ n = (j : Int) := by
  unfold idx
  rw [idxFrom_mem]
  simp
theorem idxFrom_sorted {l : Int} : ∀ {K : List Kl} {i : Nat}, (idxFrom l i K).Pairwise (· < ·) ∧ ∀ n ∈ idxFrom l i K, (i : Int) ≤ n
  | [], i => ⟨.nil, fun _ h => nomatch h⟩
  | k :: r, i => by
    unfold idxFrom
    have ih := @idxFrom_sorted l r (i + 1)
    split
    · exact ⟨List.pairwise_cons.mpr ⟨fun n hn => by have := ih.2 n hn; omega, ih.1⟩, fun n hn => by
        rcases List.mem_cons.mp hn with rfl | hn
        · exact Int.le_refl _
        · have := ih.2 n hn; omega⟩
    · exact ⟨ih.1, fun n hn => by have := ih.2 n hn; omega⟩
theorem idx_nodup {K : List Kl} {l : Int} : (idx K l).Nodup := List.nodup_iff_pairwise_ne.mpr (idxFrom_sorted.1.imp fun {a b} h => by omega)
theorem idxFrom_len {l : Int} : ∀ {K : List Kl} {i : Nat}, (idxFrom l i K).length ≤ K.length
  | [], _ => Nat.le_refl _
  | k :: r, i => by
    unfold idxFrom
    have ih := @idxFrom_len l r (i + 1)
    split <;> simp <;> omega
theorem idx_len {K : List Kl} {l : Int} : (idx K l).length ≤ K.length := idxFrom_len
theorem idxFrom_snoc {l : Int} {k : Kl} : ∀ {K : List Kl} {i : Nat}, idxFrom l i (K ++ [k]) = idxFrom l i K ++ (if l ∈ k.c then [((i + K.length : Nat) : Int)] else [])
  | [], i => by simp [idxFrom]
  | q :: r, i => by
    have ih := @idxFrom_snoc l k r (i + 1)
    simp only [List.cons_append, idxFrom, ih, List.length_cons]
    have e : i + 1 + r.length = i + (r.length + 1) := by omega
    rw [e]
    split <;> simp
theorem idx_snoc {K : List Kl} {l : Int} {k : Kl} : idx (K ++ [k]) l = idx K l ++ (if l ∈ k.c then [(K.length : Int)] else []) := by
  unfold idx
  rw [idxFrom_snoc]; simp

theorem filter_len_add {c : List Int} {p q : Int → Bool} {l : Int} (hn : c.Nodup) (hp : p l = false) (hq : ∀ x ∈ c, q x = (p x || decide (x = l))) : (c.filter q).length = (c.filter p).length + (if l ∈ c then 1 else 0) := by
  induction c with
  | nil => rfl
  | cons a r ih =>
    have hn' := List.nodup_cons.mp hn
    have ih := ih hn'.2 fun x hx => hq x (.tail _ hx)
    have ha := hq a (.head _)
    by_cases e : a = l
    · subst e
      have h1 : q a = true := by rw [ha]; simp
      rw [List.filter_cons_of_pos h1, List.filter_cons_of_neg (by rw [hp]; decide), List.length_cons, ih, if_neg hn'.1, if_pos (.head _)]
    · have h1 : q a = p a := by rw [ha]; simp [e]
      have h2 : (l ∈ a :: r) ↔ l ∈ r := by simp [Ne.symm e]
      cases hpa : p a with
      | true => rw [List.filter_cons_of_pos (by rw [h1]; exact hpa), List.filter_cons_of_pos hpa, List.length_cons, List.length_cons, ih]; simp only [h2]; omega
      | false => rw [List.filter_cons_of_neg (by rw [h1, hpa]; decide), List.filter_cons_of_neg (by rw [hpa]; decide), ih]; simp only [h2]
theorem held_add {T c : List Int} {l : Int} (hn : c.Nodup) (hl : l ∉ T) : heldOf (T ++ [l]) c = heldOf T c + (if l ∈ c then 1 else 0) := by
  unfold heldOf
  refine filter_len_add hn (by simpa using hl) fun x _ => ?_
  simp [List.mem_append]
theorem open_add {T c : List Int} {l : Int} (hn : c.Nodup) (hl : l ∉ T) : openOf T c = openOf (T ++ [l]) c + (if -l ∈ c then 1 else 0) := by
  unfold openOf
  refine filter_len_add (l := -l) hn (by simp) fun x _ => ?_
  by_cases e : x = -l
  · subst e; simp [hl]
  · have e2 : ¬ (-x = l) := fun q => e (by omega)
    simp [List.mem_append, e, e2]

-- the UnitSteps object
abbrev sE (w : World) (name : Str) (t : Tok) (v : Value) : DictEntry := ⟨PyData.keyHash w.params name, .str name t, v⟩
abbrev sDict (w : World) (τ : Nat → Tok) (aC aP aH aO aB aT aR aX : Addr) (em : Int) (te : Tok) : Obj :=
  dictOf [sE w (Str.ofString "clauses") (τ 0) (.ref aC), sE w (Str.ofString "places") (τ 1) (.ref aP), sE w (Str.ofString "held") (τ 2) (.ref aH), sE w (Str.ofString "open") (τ 3) (.ref aO),
    sE w (Str.ofString "begun") (τ 4) (.ref aB), sE w (Str.ofString "empty") (τ 5) (.int em te), sE w (Str.ofString "taken") (τ 6) (.ref aT), sE w (Str.ofString "trail") (τ 7) (.ref aR), sE w (Str.ofString "clash") (τ 8) (.ref aX)] 9

/-- the six objects that a search turns -/
abbrev own6 (w : World) (τ : Nat → Tok) (x dx aC aP aH aO aB aT aR aX : Addr) (em : Int) (te : Tok) (vh vo vr : List Value) (eH eO eR : Nat) (oT : Obj) : List (Addr × Obj) :=
  [(x, instObj 145 dx), (dx, sDict w τ aC aP aH aO aB aT aR aX em te), (aH, listOf vh.toArray eH), (aO, listOf vo.toArray eO), (aT, oT), (aR, listOf vr.toArray eR)]

/-- how their places lie -/
def Ord6 (x dx aH aO aT aR : Nat) : Prop := dx < x ∧ x < aH ∧ aH < aO ∧ aO < aT ∧ aT < aR

/-- what a search only looks at -/
structure Fix (w : World) (I : List (Addr × Obj)) (K : List Kl) (aC aP : Addr) : Prop where
  hC : ∃ e, (aC, listOf (K.map Kl.rf).toArray e) ∈ I
  hK : ∀ k ∈ K, k.ob ∈ I
  hP : ∃ o kvs, (aP, o) ∈ I ∧ (aP == sysModules) = false ∧ o.IsDictOf (intKind Prog w) kvs ∧
    ∀ l : Int, (valueAt kvs l = none ∧ idx K l = []) ∨ ∃ a vs e, valueAt kvs l = some (.ref a) ∧ (a, listOf (List.toArray vs) e) ∈ I ∧ IntsAre vs (idx K l)

/-- the counts stand as the literals taken say -/
def HO (K : List Kl) (T hs os : List Int) : Prop := hs = K.map (fun k => (heldOf T k.c : Int)) ∧ os = K.map (fun k => (openOf T k.c : Int))

/-- the dict of the taken -/
def TakenAt (w : World) (oT : Obj) (T : List Int) : Prop := ∃ kT : List (Int × Value), oT.IsDictOf (intKind Prog w) kT ∧ kT.map (·.1) = T

structure TakePost (K : List Kl) (T : List Int) (l : Int) (b : Bool) (new : List Int) : Prop where
  no : b = false → ∃ k ∈ K, heldOf (T ++ [l]) k.c = 0 ∧ openOf (T ++ [l]) k.c = 0
  yes : b = true → ∀ k ∈ K, -l ∈ k.c → ¬ (heldOf (T ++ [l]) k.c = 0 ∧ openOf (T ++ [l]) k.c = 0)
  unit : ∀ k ∈ K, -l ∈ k.c → heldOf (T ++ [l]) k.c = 0 → openOf (T ++ [l]) k.c = 1 → ∃ y ∈ new, y ∈ k.c ∧ -y ∉ T ++ [l]
  sound : ∀ y ∈ new, ∃ k ∈ K, y ∈ k.c ∧ -y ∉ T ++ [l] ∧ heldOf (T ++ [l]) k.c = 0 ∧ openOf (T ++ [l]) k.c = 1
  few : new.length ≤ K.length

/-- a queue's item -/
structure Qi where
  a : Addr
  l : Int
  t : Tok
  n : Int
  u : Tok
def Qi.ob (q : Qi) : Addr × Obj := (q.a, tup [.int q.l q.t, .int q.n q.u])
def Qi.rf (q : Qi) : Value := .ref q.a

local macro_rules | `(tactic| walk_at "compareOp NotIn int ref") => `(tactic| (k_here; k_dflt (refine' dNotIn (dictOfNews (by k_asm) (by k_mem) (by with_reducible assumption)) (intKind_is _ _ _ _) (by assumption) ?_; k_whole)))
local macro_rules | `(tactic| walk_at "compareOp In int ref") => `(tactic| (k_here; k_dflt (refine' dIn (dictOfNews (by k_asm) (by k_mem) (by with_reducible assumption)) (intKind_is _ _ _ _) (by assumption) ?_; k_whole)))
theorem taken_mem {kT : List (Int × Value)} {T : List Int} (h : kT.map (·.1) = T) {l : Int} : (valueAt kT l).isSome = true ↔ l ∈ T := by
  rw [valueAt_isSome_eq_any, List.any_eq_true, ← h, List.mem_map]
  constructor
  · rintro ⟨p, hp, e⟩; exact ⟨p, hp, by simpa using e⟩
  · rintro ⟨p, hp, e⟩; exact ⟨p, hp, by simpa using e⟩
theorem taken_not {kT : List (Int × Value)} {T : List Int} (h : kT.map (·.1) = T) {l : Int} : (valueAt kT l).isSome = false ↔ l ∉ T := by
  rw [← taken_mem h]; cases (valueAt kT l).isSome <;> simp
-- LastOf
theorem top_LastOf : True := by
  w_top off
  trivial
theorem lastof_c {w : World} {τ : Nat → Tok} {x dx aC aP aH aO aB aT aR aX : Addr} {em : Int} {te tn : Tok} {eH eO eR : Nat} {vh vo vr : List Value} {oT : Obj} {I : List (Addr × Obj)} {K : List Kl} {T : List Int} {i : Nat} {k : Kl} {y : Int}
    (ho : Ord6 x dx aH aO aT aR) (hF : Fix w I K aC aP) (hK : KOk 5 K) (hKl : K.length ≤ 11) (hT : TakenAt w oT T) (htm : (aT == sysModules) = false) (hk : K[i]? = some k) (hy : ∃ r, k.c.filter (fun l => decide (l ∉ T) && decide (-l ∉ T)) = y :: r) :
    Does w 111 [.ref x, .int i tn] (own6 w τ x dx aC aP aH aO aB aT aR aX em te vh vo vr eH eO eR oT) I 2 (fun v own => own = own6 w τ x dx aC aP aH aO aB aT aR aX em te vh vo vr eH eO eR oT ∧ ∃ t, v = .int y t) := by
  intro mean mg mb dp un gd cn cs a ccd cl outer A₀ base h₀ L m rest s Q E G hk' F N hsep himm hd hu hret
  walk_at "MINE inC"
  intro g L' h₁ tk₁ cells FG F' N' Y G' st lt
  refine hideF (by passes_own) rfl fun AA Qf Ef hAA hAh hEf hQf => ?_
  refine hideG fun G0 hG0 => ?_
  obtain ⟨oc, hE, dc⟩ := CellsAre.one Y
  refine hG0 ?_
  clear hG0
  subst hE
  clear Y
  have hI : ∀ p ∈ I, g.get? p.1 = some p.2 := fun p hp => st _ _ (himm p hp).1 (himm p hp).2
  clear F N G st himm hsep
  have ⟨B', X', T'⟩ := G'
  refine hideG fun G0 hG0 => ?_
  obtain ⟨o1, o2, o3, o4, o5⟩ := ho
  obtain ⟨eC, hC⟩ := hF.hC
  obtain ⟨kT, hkT, hkeys⟩ := hT
  have hkK : k ∈ K := List.mem_of_getElem? hk
  have hgk : g.get? k.a = some (tup k.us) := hI _ (hF.hK k hkK)
  obtain ⟨hku, hks, hkp⟩ := hK k hkK
  refine hG0 ?_
  clear hG0
  have hkl := hku.length
  have hkl2 := hks.1
  have hLC : g.IsList aC (K.map Kl.rf).toArray := ⟨_, hI _ hC, rfl, _, rfl⟩
  have hx9 : (K.map Kl.rf).toArray[((i : Int)).toNat]? = some (.ref k.a) := by simp [hk, Kl.rf]
  have hiK : i < K.length := (List.getElem?_eq_some_iff.mp hk).1
  dsimp only [own6] at N' lt
  k_lt lt
  simp only [List.cons_append, List.nil_append] at N'
  try dsimp only
  try k_fold
  walk_at "MINE go"
  rename_i h3 oT' F3 N3 dT
  refine halt_mk ?_
  refine comp_tuple (σ := Unit) (fun _ => (L' + 1, oT') :: own6 w τ x dx aC aP aH aO aB aT aR aX em te vh vo vr eH eO eR oT) (fun j ys _ => IntsAre ys ((k.c.take j).filter fun l => decide (l ∉ T) && decide (-l ∉ T))) () hAh (.inl ⟨_, hgk, rfl, 0, rfl⟩) (by rw [sizeLine_eq]; omega) (by decide) rfl F3 N3 .nil (fun _ _ => rfl) ?cturn (rr_eval ?cdone)
  case cturn =>
    rintro j v ys ⟨⟩ u₃ h₆ tk₆ C I₂ D₂ nD oL oI₂ E₂ hv₂ hlen₂ hys hoffC hbC F₈ N₈ hL
    clear F3 N3
    refine hideG fun G0 hG0 => ?_
    obtain ⟨y', ty, rfl, hy'⟩ := hku.at j v hv₂
    refine hG0 ?_
    clear hG0
    have htj : k.c.take (j + 1) = k.c.take j ++ [y'] := by rw [List.take_add_one, hy']; rfl
    refine turn_name (by decide) rfl F₈ N₈ fun h₇ tk₇ F₉ N₉ => wpAny_tests_one ?_
    clear F₈ N₈
    dsimp only [own6] at N₉
    simp only [List.cons_append, List.nil_append] at N₉
    try k_fold
    walk_at "MINE go"
    · rename ((valueAt kT y').isSome = true) => h1
      rename Fr _ _ _ _ => F10; rename News _ _ _ _ => N10
      refine eltEnd (led := fun _ : Unit => _) () F10 N10 hoffC ?_
      have h1 := (taken_mem hkeys).mp h1
      rw [htj, List.filter_append, List.filter_cons_of_neg (by simp [h1]), List.filter_nil, List.append_nil]
      exact hys
    · rename ((valueAt kT y').isSome = false) => h1
      rename ((valueAt kT (-y')).isSome = true) => h2
      rename Fr _ _ _ _ => F10; rename News _ _ _ _ => N10
      refine eltEnd (led := fun _ : Unit => _) () F10 N10 hoffC ?_
      have h2 := (taken_mem hkeys).mp h2
      rw [htj, List.filter_append, List.filter_cons_of_neg (by simp [h2]), List.filter_nil, List.append_nil]
      exact hys
    · rename ((valueAt kT y').isSome = false) => h1
      rename ((valueAt kT (-y')).isSome = false) => h2
      rename Fr _ _ _ _ => F10; rename News _ _ _ _ => N10
      refine eltEnd (led := fun _ : Unit => _) () F10 N10 hoffC ?_
      have h1 := (taken_not hkeys).mp h1
      have h2 := (taken_not hkeys).mp h2
      rw [htj, List.filter_append, List.filter_cons_of_pos (by simp [h1, h2]), List.filter_nil]
      exact hys.append (.cons _ _ .nil)
  case cdone =>
    intro D₂ c' h₆ tk₆ ys nD hys F₈ N₈ hD₂
    clear F3 N3
    rw [hkl, List.take_length] at hys
    obtain ⟨r, hr⟩ := hy
    rw [hr] at hys
    have hyl := hys.length
    dsimp only [own6] at N₈
    try k_fold
    try dsimp only
    walk_at "MINE go"
    walk_at "MINE out"
    refine leaveF (by assumption) (news' := own6 w τ x dx aC aP aH aO aB aT aR aX em te vh vo vr eH eO eR oT) (fun p hp => N₈ p (.tail _ (.tail _ hp))) ?_
    intro F9 N9 S9
    exact hret _ _ _ _ ⟨rfl, _, rfl⟩ F9 N9 S9
-- TakeLem
theorem top_TakeLem : True := by
  w_top off
  trivial
def cAt (K : List Kl) (j : Nat) : List Int := (K[j]?.map Kl.c).getD []
theorem cAt_of {K : List Kl} {j : Nat} {k : Kl} (h : K[j]? = some k) : cAt K j = k.c := by simp [cAt, h]

theorem getD_of_map {K : List Kl} {F : List Int → Int} {j : Nat} (hj : j < K.length) : (K.map fun k => F k.c).getD j 0 = F (cAt K j) := by
  simp [List.getD_eq_getElem?_getD, cAt, List.getElem?_eq_getElem hj]
theorem map_of_getD {K : List Kl} {F : List Int → Int} {hs : List Int} (hl : hs.length = K.length) (h : ∀ j < K.length, hs.getD j 0 = F (cAt K j)) : hs = K.map fun k => F k.c := by
  apply List.ext_getElem
  · simp [hl]
  · intro j h1 h2
    have h3 : j < K.length := by simpa using h2
    have := h j h3
    rw [List.getD_eq_getElem?_getD, List.getElem?_eq_getElem h1] at this
    simp only [Option.getD_some] at this
    rw [this]
    simp [cAt, List.getElem?_eq_getElem h3]

theorem count_step {hs : List Int} {f : Nat → Int} {ix : List Int} {i j0 : Nat} {d z : Int} (hnd : ix.Nodup) (hi : ix[i]? = some (j0 : Int)) (hj : j0 < hs.length) (hz : z = hs.getD j0 0 + d)
    (h : ∀ j < hs.length, hs.getD j 0 = f j + (if (j : Int) ∈ ix.take i then d else 0)) :
    ∀ j < hs.length, (hs.set j0 z).getD j 0 = f j + (if (j : Int) ∈ ix.take (i + 1) then d else 0) := by
  intro j hjl
  have hti : ix.take (i + 1) = ix.take i ++ [(j0 : Int)] := by rw [List.take_add_one, hi]; rfl
  have hnot : (j0 : Int) ∉ ix.take i := by
    intro hm
    have h1 : (ix.take (i + 1)).Nodup := hnd.sublist (List.take_sublist _ _)
    rw [hti, List.nodup_append] at h1
    exact h1.2.2 _ hm _ (by simp) rfl
  rw [List.getD_eq_getElem?_getD, List.getElem?_set, hti]
  by_cases e : j0 = j
  · subst e
    have h0 := h j0 hj
    rw [if_neg hnot] at h0
    rw [if_pos rfl, if_pos hj, if_pos (by simp), hz, h0]
    simp
  · rw [if_neg e]
    have h0 := h j hjl
    have e2 : ¬ (j : Int) = (j0 : Int) := by omega
    rw [List.getD_eq_getElem?_getD] at h0
    rw [h0]
    simp [List.mem_append, e2]

theorem intList_len {vs : List Value} {ns : List Int} {i : Nat} {n : Int} (h : IntsAre vs ns) (hi : ns[i]? = some n) : ∃ t, vs[i]? = some (.int n t) := h.get i n hi

section
variable {w : World} {A : Around} {E : Value → Shared → Prop} {s : Shared} {env : Env} {h₀ : Heap} {x : Str} {body : List Stmt} {Q : Flow → Shared → Prop} {σ : Type} {m₀ : Str → Option Value}

/-- the loop over `places.get(literal, ())` -/
theorem loop_places {K : List Kl} {I : List (Addr × Obj)} {kvs : List (Int × Value)} {l : Int} {D0 : Addr} (led : σ → List (Addr × Obj)) (ps : σ → List (Str × Value)) (J : Nat → σ → Prop) (c₀ : σ)
    (hh : A.handled = none) (hI : ∀ p ∈ I, h₀.get? p.1 = some p.2)
    (hpl : (valueAt kvs l = none ∧ idx K l = []) ∨ ∃ a vs e, valueAt kvs l = some (.ref a) ∧ (a, listOf (List.toArray vs) e) ∈ I ∧ IntsAre vs (idx K l))
    (hD0 : ∀ i c, J i c → (D0, tup []) ∈ led c) (F : Fr h₀ env.locals s.heap m₀) (N : News h₀ env.locals s.heap (led c₀)) (hps : ∀ p ∈ ps c₀, m₀ p.1 = some p.2) (hJ : J 0 c₀)
    (turn : ∀ i (j : Nat) k t c (u : Str → Option Value) h tk I oI, (idx K l)[i]? = some (j : Int) → K[j]? = some k → l ∈ k.c → J i c → (∀ p ∈ led c, p.1 ≠ I) → Fr h₀ env.locals h (fun y => if y = x then some (.int (j : Int) t) else kstB u (ps c) y) → News h₀ env.locals h ((I, oI) :: led c) →
      wpAny (model Prog w) A (execs body env) (TurnEnd h₀ env.locals led ps (J (i + 1)) I oI { s with heap := h, toks := tk } Q) E { s with heap := h, toks := tk })
    (done : ∀ c (u : Str → Option Value) h tk, J (idx K l).length c → Fr h₀ env.locals h (kstB u (ps c)) → News h₀ env.locals h (led c) → Q .next { s with heap := h, toks := tk }) :
    wpAny (model Prog w) A (pyIter ((valueAt kvs l).getD (.ref D0))) (fun it s₂ => LoopAtV Prog w A h₀ env x body Q E it s₂) E s := by
  rcases hpl with ⟨h1, h2⟩ | ⟨a, vs, e, h1, h2, h3⟩
  · rw [h1]
    rw [h2] at done
    refine loop_tuple (vs := []) led ps J c₀ hh (.inr ⟨tup [], rfl, ⟨0, rfl⟩, hD0⟩) F N hps hJ (fun i v c u h tk I oI hv => by simp at hv) done
  · rw [h1]
    have hl := h3.length
    rw [← hl] at done
    refine loop_list led ps J c₀ hh (.inl ⟨_, hI _ h2, rfl, _, rfl⟩) F N hps hJ (fun i v c u h tk I oI hv hJc hoff F₁ N₁ => ?_) done
    obtain ⟨n, t, rfl, hn⟩ := h3.at i v hv
    obtain ⟨j, k, hj1, hj2, rfl⟩ := idx_mem.mp (List.mem_of_getElem? hn)
    exact turn i j k t c u h tk I oI hn hj1 hj2 hJc hoff F₁ N₁
end
-- Take
theorem top_Take : True := by
  w_top off
  trivial
theorem getM {w : World} {A : Around} {E : Value → Shared → Prop} {s : Shared} {d : Addr} {kvs : List (Int × Value)} {pl : Sem Bool} {Q : Value × List Value → Shared → Prop} (hD : s.heap.DictOf (intKind Prog w) d kvs) (h : Q (.builtin "dict.get", [.ref d]) s) :
    wpAny (model Prog w) A (getMethod (.ref d) (Str.ofString "get") pl) Q E s := getMethod_builtin hD.typeIs PySem.F.plainAttrs_dict PySem.F.slot_dict_get PySem.F.type_dict_get hD.mapOf.noDict h
theorem dGet {w : World} {A : Around} {E : Value → Shared → Prop} {s : Shared} {d : Addr} {kvs : List (Int × Value)} {k : Int} {t : Tok} {dflt : Value} {Q : Value → Shared → Prop} (hD : s.heap.DictOf (intKind Prog w) d kvs) (lo : (d == sysModules) = false) (h : Q ((valueAt kvs k).getD dflt) { s with toks := s.toks + 1 }) :
    wpAny (model Prog w) A (call (.builtin "dict.get") [.ref d, .int k t, dflt]) Q E s :=
  call_meetsIn PySem.F.slot_dict_get hD.typeIs PySem.F.entry_dict_get (PySem.F.args_dict_get_3 _ _ _) (meets_dict_get_default (intKind Prog w) d (intKind_is _ _ _ _) lo dflt) ⟨_, hD.mapOf, h⟩
local macro_rules | `(tactic| walk_at "getMethod ref") => `(tactic| (k_here; k_dflt (refine' getM (dictOfBase (by k_asm) (by assumption) (by with_reducible assumption)) ?_; k_whole)))
local macro_rules | `(tactic| walk_at "call builtin:dict.get") => `(tactic| (k_here; k_dflt (refine' dGet (dictOfBase (by k_asm) (by assumption) (by with_reducible assumption)) (by assumption) ?_; k_whole)))
local macro_rules | `(tactic| walk_at "setItem ref int") => `(tactic| (k_here; k_dflt (refine' dSet (by k_asm) (by k_asm) (by k_updF) (by with_reducible assumption) (intKind_is _ _ _ _) ?_ (by rw [sizeLine_eq]; omega); k_whole); intro h' o' F' N' D'; (try dsimp only at N'); (try k_sweep)))

theorem sepGt {q a : Nat} {l : List (Addr × Obj)} (h : ∀ p ∈ l, @LT.lt Nat _ q p.1) (ha : a ≤ q) : ∀ p ∈ l, a ≠ p.1 := fun p hp e => by have := h p hp; rw [← e] at this; omega
theorem sepGt' {q a : Nat} {l : List (Addr × Obj)} (h : ∀ p ∈ l, @LT.lt Nat _ q p.1) (ha : a ≤ q) : ∀ p ∈ l, p.1 ≠ a := fun p hp e => by have := h p hp; rw [e] at this; omega
local macro_rules | `(tactic| walk_at "MINE le") => `(tactic| first | exact Nat.le_refl _ | exact Nat.le_of_lt (by walk_at "MINE lt") | exact Nat.le_of_lt (by walk_at "MINE cj") | omega)
local macro_rules | `(tactic| k_all) => `(tactic| first | exact sepGt' (by with_reducible assumption) (by walk_at "MINE le") | fail "none")
local macro_rules | `(tactic| walk_at "MINE sep") => `(tactic| (repeat' (first | exact List.forall_mem_nil _ | (refine fmc ?_ ?_) | (refine fma ?_ ?_) | assumption | exact sepGt (by with_reducible assumption) (by walk_at "MINE le") | exact sepGt' (by with_reducible assumption) (by walk_at "MINE le") | k_ne | (intro p9 h9 e9; simp at h9; done))))
set_option genInjectivity false in
set_option genSizeOf false in
structure TkS where
  b : Bool
  aX : Addr
  vo : List Value
  os : List Int
  new : List Qi
  eq : Nat
structure TkInv (K : List Kl) (T' : List Int) (dn : List Int) (b : Bool) (new : List Int) : Prop where
  no : b = false → ∃ k ∈ K, heldOf T' k.c = 0 ∧ openOf T' k.c = 0
  yes : b = true → ∀ (j : Nat) (k : Kl), (j : Int) ∈ dn → K[j]? = some k → ¬ (heldOf T' k.c = 0 ∧ openOf T' k.c = 0)
  unit : ∀ (j : Nat) (k : Kl), (j : Int) ∈ dn → K[j]? = some k → heldOf T' k.c = 0 → openOf T' k.c = 1 → ∃ y ∈ new, y ∈ k.c ∧ -y ∉ T'
  sound : ∀ y ∈ new, ∃ k ∈ K, y ∈ k.c ∧ -y ∉ T' ∧ heldOf T' k.c = 0 ∧ openOf T' k.c = 1
theorem of_snoc {j j0 : Nat} {dn : List Int} (h : (j : Int) ∈ dn ++ [(j0 : Int)]) : (j : Int) ∈ dn ∨ j = j0 := by
  rw [List.mem_append, List.mem_singleton] at h
  exact h.imp id (by omega)
theorem TkInv.clash {K : List Kl} {T' dn new : List Int} {b : Bool} {j0 : Nat} {k : Kl} (h : TkInv K T' dn b new) (hk : K[j0]? = some k) (h0 : heldOf T' k.c = 0) (h1 : openOf T' k.c = 0) : TkInv K T' (dn ++ [(j0 : Int)]) false new := by
  refine ⟨fun _ => ⟨k, List.mem_of_getElem? hk, h0, h1⟩, (fun e => nomatch e), fun j k' hj hk' e0 e1 => ?_, h.sound⟩
  rcases of_snoc hj with hj | rfl
  · exact h.unit j k' hj hk' e0 e1
  · rw [hk] at hk'; cases hk'; omega
theorem TkInv.one {K : List Kl} {T' dn new : List Int} {b : Bool} {j0 : Nat} {k : Kl} {y : Int} (h : TkInv K T' dn b new) (hk : K[j0]? = some k) (h0 : heldOf T' k.c = 0) (h1 : openOf T' k.c = 1) (hy : y ∈ k.c ∧ -y ∉ T') : TkInv K T' (dn ++ [(j0 : Int)]) b (new ++ [y]) := by
  refine ⟨h.no, fun e j k' hj hk' => ?_, fun j k' hj hk' e0 e1 => ?_, List.forall_mem_append.mpr ⟨h.sound, List.forall_mem_singleton.mpr ⟨k, List.mem_of_getElem? hk, hy.1, hy.2, h0, h1⟩⟩⟩
  · rcases of_snoc hj with hj | rfl
    · exact h.yes e j k' hj hk'
    · rw [hk] at hk'; cases hk'; omega
  · rcases of_snoc hj with hj | rfl
    · obtain ⟨z, hz, h⟩ := h.unit j k' hj hk' e0 e1
      exact ⟨z, List.mem_append_left _ hz, h⟩
    · rw [hk] at hk'; cases hk'
      exact ⟨y, by simp, hy⟩
theorem TkInv.skip {K : List Kl} {T' dn new : List Int} {b : Bool} {j0 : Nat} {k : Kl} (h : TkInv K T' dn b new) (hk : K[j0]? = some k) (h0 : ¬ (heldOf T' k.c = 0 ∧ openOf T' k.c = 0)) (h1 : ¬ (heldOf T' k.c = 0 ∧ openOf T' k.c = 1)) : TkInv K T' (dn ++ [(j0 : Int)]) b new := by
  refine ⟨h.no, fun e j k' hj hk' => ?_, fun j k' hj hk' e0 e1 => ?_, h.sound⟩
  · rcases of_snoc hj with hj | rfl
    · exact h.yes e j k' hj hk'
    · rw [hk] at hk'; cases hk'; exact h0
  · rcases of_snoc hj with hj | rfl
    · exact h.unit j k' hj hk' e0 e1
    · rw [hk] at hk'; cases hk'; exact absurd ⟨e0, e1⟩ h1
theorem mem_idx_at {K : List Kl} {j : Nat} {k : Kl} {l : Int} (hk : K[j]? = some k) : (j : Int) ∈ idx K l ↔ l ∈ k.c := by
  rw [idx_mem]
  constructor
  · rintro ⟨j', k', h1, h2, h3⟩
    have : j' = j := by omega
    subst this
    rw [hk] at h1; rw [Option.some.inj h1]; exact h2
  · exact fun h => ⟨j, _, hk, h, rfl⟩
theorem getD_set_self {ns : List Int} {j : Nat} {z : Int} (h : j < ns.length) : (ns.set j z).getD j 0 = z := by simp [List.getD_eq_getElem?_getD, h]
theorem one_free {T c : List Int} (h0 : heldOf T c = 0) (h1 : openOf T c = 1) : ∃ y r, c.filter (fun l => decide (l ∉ T) && decide (-l ∉ T)) = y :: r ∧ y ∈ c ∧ -y ∉ T := by
  unfold heldOf at h0; unfold openOf at h1
  have e : c.filter (fun l => decide (l ∉ T) && decide (-l ∉ T)) = c.filter (fun l => decide (-l ∉ T)) := by
    refine List.filter_congr fun x hx => ?_
    have : x ∉ T := fun hxT => by
      have : x ∈ c.filter (fun l => decide (l ∈ T)) := List.mem_filter.mpr ⟨hx, by simpa using hxT⟩
      rw [List.eq_nil_of_length_eq_zero h0] at this; cases this
    simp [this]
  obtain ⟨y, hy⟩ := len_one h1
  have hm : y ∈ c.filter (fun l => decide (-l ∉ T)) := by rw [hy]; simp
  have hm := List.mem_filter.mp hm
  exact ⟨y, [], by rw [e, hy], hm.1, by simpa using hm.2⟩
theorem stored_keys_new {kT : List (Int × Value)} {T : List Int} {l : Int} {v : Value} (h : kT.map (·.1) = T) (hl : l ∉ T) : (stored kT l v).map (·.1) = T ++ [l] := by
  have h1 := (taken_not h).mpr hl
  rw [stored_absent (by cases e : valueAt kT l <;> simp_all), List.map_append, h]
  rfl
inductive TakeR (w : World) (τ : Nat → Tok) (x dx aC aP aH aO aB aT aR q : Addr) (em : Int) (te : Tok) (K : List Kl) (T : List Int) (l : Int) (Qs : List Qi) (v : Value) (own : List (Addr × Obj)) : Prop
  | mk (b : Bool) (aX' : Addr) (vh' vo' vr' : List Value) (eH' eO' eR' eq' : Nat) (oT' : Obj) (new : List Qi) (hs' os' : List Int) (hv : v = .bool b) (hown : own = own6 w τ x dx aC aP aH aO aB aT aR aX' em te vh' vo' vr' eH' eO' eR' oT' ++ (q, listOf ((Qs ++ new).map Qi.rf).toArray eq') :: new.map Qi.ob)
      (hT : TakenAt w oT' (T ++ [l])) (hi : IntsAre vh' hs' ∧ IntsAre vo' os' ∧ IntsAre vr' (T ++ [l])) (hHO : HO K (T ++ [l]) hs' os') (P : TakePost K T l b (new.map Qi.l)) (hq : ∀ p ∈ new, @LT.lt Nat _ q p.a) : TakeR w τ x dx aC aP aH aO aB aT aR q em te K T l Qs v own
theorem take_c {w : World} {τ : Nat → Tok} {x dx aC aP aH aO aB aT aR aX q : Addr} {em : Int} {te tl : Tok} {eH eO eR eq : Nat} {vh vo vr : List Value} {oT : Obj} {I : List (Addr × Obj)} {K : List Kl} {T hs os : List Int} {l cz : Int} {tc : Tok} {Qs : List Qi}
    (ho : Ord6 x dx aH aO aT aR) (hq : @LT.lt Nat _ aR q) (hF : Fix w I K aC aP) (hK : KOk 5 K) (hKl : K.length ≤ 11) (hT : TakenAt w oT T) (htm : (aT == sysModules) = false) (hv : IntsAre vh hs ∧ IntsAre vo os ∧ IntsAre vr T) (hHO : HO K T hs os) (hlT : l ∉ T) (hlT' : -l ∉ T) (hTl : T.length ≤ 4) (hQ : Qs.length ≤ 200) :
    Does w 118 [.ref x, .int l tl, .int cz tc, .ref q] (own6 w τ x dx aC aP aH aO aB aT aR aX em te vh vo vr eH eO eR oT ++ [(q, listOf (Qs.map Qi.rf).toArray eq)]) I 4
      (TakeR w τ x dx aC aP aH aO aB aT aR q em te K T l Qs) := by
  intro mean mg mb dp un gd cn cs a ccd cl outer A₀ base h₀ L m rest s Q E G hk' F N hsep himm hd hu hret
  walk_at "MINE in"
  intro g L' h₁ tk₁ FG F' N' G' st lt
  refine hideF (by passes_own) rfl fun AA Qf Ef hAA hAh hEf hQf => ?_
  have hI : ∀ p ∈ I, g.get? p.1 = some p.2 := fun p hp => st _ _ (himm p hp).1 (himm p hp).2
  clear F N G st himm hsep
  have ⟨B', X', T'⟩ := G'
  refine hideG fun G0 hG0 => ?_
  obtain ⟨o1, o2, o3, o4, o5⟩ := ho
  obtain ⟨oP, kvs, hoP, hPm, hkvs, hpl⟩ := hF.hP
  have hgP := hI _ hoP
  obtain ⟨kT, hkT, hkeys⟩ := hT
  have hkTl : kT.length ≤ 4 := by have := congrArg List.length hkeys; rw [List.length_map] at this; omega
  obtain ⟨hvh, hvo, hvr⟩ := hv
  refine hG0 ?_
  clear hG0
  have hvl := hvr.length
  try dsimp only [own6] at N' lt
  try simp only [List.cons_append, List.nil_append] at N'
  try simp only [List.cons_append, List.nil_append] at lt
  k_lt lt
  try dsimp only
  try k_fold
  walk_at "MINE go"
  walk_at "MINE for"
  walk_at "MINE go"
  rename_i oT' dT hA D0 h3 F3 N3 l1
  have hN3 : News g L' h3 ((D0, tup []) :: (own6 w τ x dx aC aP aH aO aB aT aR aX em te vh vo (vr ++ [Value.int l tl]) eH eO (eR + 1) oT' ++ [(q, listOf (Qs.map Qi.rf).toArray eq)])) := by
    (try simp only [List.push_toArray] at N3); exact N3
  clear N3
  have hvr' : IntsAre (vr ++ [Value.int l tl]) (T ++ [l]) := hvr.append (.cons _ _ .nil)
  have hTk : TakenAt w oT' (T ++ [l]) := ⟨_, dT, by rw [stored_keys_new hkeys hlT]⟩
  obtain ⟨hHs, hOs⟩ := hHO
  have hsl : hs.length = K.length := by rw [hHs, List.length_map]
  have hol : os.length = K.length := by rw [hOs, List.length_map]
  refine loop_places (σ := List Value × List Int) (K := K) (l := l) (D0 := D0) (fun c => (D0, tup []) :: (own6 w τ x dx aC aP aH aO aB aT aR aX em te c.1 vo (vr ++ [Value.int l tl]) eH eO (eR + 1) oT' ++ [(q, listOf (Qs.map Qi.rf).toArray eq)]))
    (fun _ => [(Str.ofString "stands", .bool true), (Str.ofString "queue", .ref q), (Str.ofString "literal", .int l tl), (Str.ofString "self", .ref x)])
    (fun i c => IntsAre c.1 c.2 ∧ c.2.length = K.length ∧ ∀ j < c.2.length, c.2.getD j 0 = (heldOf T (cAt K j) : Int) + (if (j : Int) ∈ (idx K l).take i then 1 else 0)) (vh, hs) hAh hI (hpl l) (fun _ _ _ => .head _) F3 hN3 (by kst_all)
    ⟨hvh, hsl, fun j hj => by dsimp only at hj ⊢; rw [hHs, getD_of_map (F := fun c => (heldOf T c : Int)) (by omega)]; simp⟩ ?turn ?done
  case turn =>
    rintro i j k t ⟨vs, ns⟩ u h₄ tk₄ II oI hij hjk hlk hJ9 hoff F₄ N₄
    clear hsl hol
    refine hideQ fun Qt hQt => ?_
    refine hideG fun G0 hG0 => ?_
    obtain ⟨hvs, hnl, hcnt⟩ := hJ9
    refine hG0 ?_
    clear hG0
    clear F3 hN3
    dsimp only [kstB, own6] at F₄ N₄ hvs hnl hcnt hoff
    have hoff' := allNe_of hoff
    dsimp only [List.cons_append, List.nil_append, AllNe] at hoff'
    simp only [List.cons_append, List.nil_append] at N₄
    have hjK : j < K.length := (List.getElem?_eq_some_iff.mp hjk).1
    try k_fold
    walk_at "MINE go"
    try dsimp only [TurnEnd]
    rename Fr _ _ _ _ => F5; rename News _ _ _ _ => N5
    refine turnNext (vs.set j _, ns.set j (ns.getD j 0 + 1)) F5 N5 (by walk_at "MINE sep") (by kst_all) ⟨by assumption, by dsimp only; rw [List.length_set]; exact hnl, fun j' hj' => ?_⟩
    dsimp only at hj' ⊢
    rw [List.length_set] at hj'
    exact count_step idx_nodup hij (by omega) rfl hcnt j' hj'
  case done =>
    rintro ⟨vs, ns⟩ u h₄ tk₄ hJ9 F₄ N₄
    refine hideG fun G0 hG0 => ?_
    obtain ⟨hvs, hnl, hcnt⟩ := hJ9
    refine hG0 ?_
    clear hG0
    clear F3 hN3
    dsimp only [kstB, own6] at F₄ N₄ hvs hnl hcnt
    have hnK : ns = K.map fun k => (heldOf (T ++ [l]) k.c : Int) := map_of_getD (F := fun c => (heldOf (T ++ [l]) c : Int)) hnl fun j hj => by
      rw [hcnt j (by omega), List.take_length]
      have hk := List.getElem?_eq_getElem hj
      rw [cAt_of hk, held_add (proper_nodup (hK _ (List.getElem_mem hj)).2.2) hlT]
      simp only [mem_idx_at hk]
      split <;> simp
    clear hcnt
    replace N₄ : News g (envOf (Str.ofString "UnitSteps.take") _ L' 118 (Value.ref 117)).locals h₄ (own6 w τ x dx aC aP aH aO aB aT aR aX em te vs vo (vr ++ [Value.int l tl]) eH eO (eR + 1) oT' ++ [(q, listOf (Qs.map Qi.rf).toArray eq)]) := fun p hp => N₄ p (.tail _ hp)
    dsimp only [own6] at N₄
    simp only [List.cons_append, List.nil_append] at N₄
    try k_fold
    try dsimp only
    walk_at "MINE go"
    walk_at "MINE for"
    walk_at "MINE go"
    rename_i D1 h5 F5 N5 l2
    try clear N₄
    have hN5 : News g L' h5 ((D1, tup []) :: (own6 w τ x dx aC aP aH aO aB aT aR aX em te vs vo (vr ++ [Value.int l tl]) eH eO (eR + 1) oT' ++ (q, listOf ((Qs ++ []).map Qi.rf).toArray eq) :: ([] : List Qi).map Qi.ob)) := by
      rw [List.append_nil]; exact N5
    clear N5
    refine loop_places (σ := TkS) (K := K) (l := -l) (D0 := D1) (fun c => (D1, tup []) :: (own6 w τ x dx aC aP aH aO aB aT aR c.aX em te vs c.vo (vr ++ [Value.int l tl]) eH eO (eR + 1) oT' ++ (q, listOf ((Qs ++ c.new).map Qi.rf).toArray c.eq) :: c.new.map Qi.ob))
      (fun c => [(Str.ofString "stands", .bool c.b), (Str.ofString "queue", .ref q), (Str.ofString "literal", .int l tl), (Str.ofString "self", .ref x)])
      (fun i c => IntsAre c.vo c.os ∧ c.os.length = K.length ∧ (∀ j < c.os.length, c.os.getD j 0 = (openOf T (cAt K j) : Int) + (if (j : Int) ∈ (idx K (-l)).take i then -1 else 0)) ∧ TkInv K (T ++ [l]) ((idx K (-l)).take i) c.b (c.new.map Qi.l) ∧ (∀ p ∈ c.new.map Qi.ob, @LT.lt Nat _ q p.1) ∧ c.new.length ≤ i)
      ⟨true, aX, vo, os, [], eq⟩ hAh hI (hpl (-l)) (fun _ _ _ => .head _) F5 hN5 (by kst_all)
      ⟨hvo, hol, fun j hj => by dsimp only at hj ⊢; rw [hOs, getD_of_map (F := fun c => (openOf T c : Int)) (by omega)]; simp, ⟨fun e => (nomatch e), fun _ _ _ h => (nomatch h), fun _ _ h => (nomatch h), fun _ h => nomatch h⟩, fun _ h => (nomatch h), Nat.le_refl _⟩ ?turn2 ?done2
    case turn2 =>
      rintro i j k t ⟨b, aY, vo₂, os₂, new, eq₂⟩ u h₆ tk₆ II oI hij hjk hlk hJ9 hoff F₆ N₆
      clear hsl hol
      refine hideQ fun Qt hQt => ?_
      refine hideG fun G0 hG0 => ?_
      obtain ⟨hvo₂, hol₂, hcnt, hinv, hgt, hnw⟩ := hJ9
      refine hG0 ?_
      clear hG0
      clear F5 hN5
      dsimp only [kstB, own6] at F₆ N₆ hvo₂ hol₂ hcnt hinv hgt hnw hoff
      have hoff' := hoff
      simp only [List.cons_append, List.nil_append, List.forall_mem_cons] at hoff'
      refine hideG fun G0 hG0 => ?_
      obtain ⟨f1, f2, f3, f4, f5, f6, f7, f8, f9⟩ := hoff'
      refine hG0 ?_
      clear hG0
      replace f1 := neN f1; replace f2 := neN f2; replace f3 := neN f3; replace f4 := neN f4; replace f5 := neN f5; replace f6 := neN f6; replace f7 := neN f7; replace f8 := neN f8
      try dsimp only at f1 f2 f3 f4 f5 f6 f7 f8
      simp only [List.cons_append, List.nil_append] at N₆
      have hjK : j < K.length := (List.getElem?_eq_some_iff.mp hjk).1
      have hti : (idx K (-l)).take (i + 1) = (idx K (-l)).take i ++ [(j : Int)] := by rw [List.take_add_one, hij]; rfl
      have hnot : (j : Int) ∉ (idx K (-l)).take i := by
        intro hm
        have h1 : ((idx K (-l)).take (i + 1)).Nodup := idx_nodup.sublist (List.take_sublist _ _)
        rw [hti, List.nodup_append] at h1
        exact h1.2.2 _ hm _ (by simp) rfl
      have hnd := proper_nodup (hK k (List.mem_of_getElem? hjk)).2.2
      have e0 : ns.getD ((j : Int)).toNat 0 = (heldOf (T ++ [l]) k.c : Int) := by
        show ns.getD j 0 = _
        rw [hnK, getD_of_map (F := fun c => (heldOf (T ++ [l]) c : Int)) hjK, cAt_of hjk]
      have e1 : os₂.getD j 0 - 1 = (openOf (T ++ [l]) k.c : Int) := by
        rw [hcnt j (by omega), if_neg hnot, cAt_of hjk, open_add hnd hlT, if_pos hlk]
        omega
      have e2 : (os₂.set ((j : Int)).toNat (os₂.getD ((j : Int)).toNat 0 - 1)).getD ((j : Int)).toNat 0 = (openOf (T ++ [l]) k.c : Int) := by
        rw [← e1]
        exact getD_set_self (by omega)
      have hsl₂ : (os₂.set j (os₂.getD j 0 - 1)).length = K.length := by rw [List.length_set]; exact hol₂
      have hcs : ∀ j' < (os₂.set j (os₂.getD j 0 - 1)).length, (os₂.set j (os₂.getD j 0 - 1)).getD j' 0 = (openOf T (cAt K j') : Int) + (if (j' : Int) ∈ (idx K (-l)).take (i + 1) then -1 else 0) := fun j' hj' => by
        rw [List.length_set] at hj'
        exact count_step idx_nodup hij (by omega) rfl hcnt j' hj'
      try k_fold
      walk_at "MINE go"
      · (rename Fr _ _ _ _ => F7); (rename News _ _ _ _ => N7)
        refine turnNext ⟨false, _, vo₂.set j _, os₂.set j (os₂.getD j 0 - 1), new, eq₂⟩ F7 (fun p hp => N7 p (.tail _ hp)) (by walk_at "MINE sep") (by kst_all) ⟨by assumption, hsl₂, hcs, ?_, hgt, by dsimp only; omega⟩
        rw [hti]
        exact hinv.clash hjk (by omega) (by omega)
      · obtain ⟨y, r, hfil, hyc, hyn⟩ := one_free (T := T ++ [l]) (c := k.c) (by omega) (by omega)
        (rename Fr _ _ _ _ => F7); (rename News _ _ _ _ => N7)
        refine Does.useA hAA ((II, oI) :: (D1, tup []) :: (q, listOf ((Qs ++ new).map Qi.rf).toArray eq₂) :: new.map Qi.ob) (lastof_c ⟨o1, o2, o3, o4, o5⟩ hF hK hKl hTk htm hjk ⟨r, hfil⟩) G' rfl F7 N7 (by kst_inAny) (by walk_at "MINE sep") (fun p hp => .inl (hI p hp)) (by walk_at "MINE room") (by walk_at "MINE room") ?_
        rintro v9 own9 h₇ tk₇ hJ9 F₇ N₇ S₇
        refine hideG fun G0 hG0 => ?_
        obtain ⟨rfl, ty, rfl⟩ := hJ9
        refine hG0 ?_
        clear hG0
        clear F7 N7 S₇
        dsimp only [own6] at N₇
        simp only [List.cons_append, List.nil_append] at N₇
        have hz : (List.map Qi.rf (Qs ++ new)).length ≤ 300 := by
          have h1 := (List.getElem?_eq_some_iff.mp hij).1
          have h2 := idx_len (K := K) (l := -l)
          rw [List.length_map, List.length_append]; omega
        try dsimp only
        try k_fold
        walk_at "MINE go"
        try dsimp only [TurnEnd]
        (rename Fr _ _ _ _ => F8); (rename News _ _ _ _ => N8)
        rename_i D2 _ l9 _
        have e9 : (List.map Qi.rf (Qs ++ new)).toArray.push (Value.ref D2) = (List.map Qi.rf (Qs ++ (new ++ [⟨D2, y, ty, (j : Int), t⟩]))).toArray := by simp [Qi.rf]
        have e8 : List.map Qi.rf (Qs ++ new) ++ [Value.ref D2] = List.map Qi.rf (Qs ++ (new ++ [⟨D2, y, ty, (j : Int), t⟩])) := by simp [Qi.rf]
        first | rw [e9] at N8 | rw [e8] at N8
        refine turnNext ⟨b, aY, vo₂.set j _, os₂.set j (os₂.getD j 0 - 1), new ++ [⟨D2, y, ty, (j : Int), t⟩], eq₂ + 1⟩ F8 ?_ ?_ (by kst_all) ⟨by assumption, hsl₂, hcs, ?_, ?_, ?_⟩
        · intro p hp
          refine N8 p ?_
          dsimp only at hp
          rw [List.map_append (f := Qi.ob)] at hp
          simp only [List.map_cons, List.map_nil, Qi.ob] at hp
          revert p
          walk_at "MINE sub"
        · dsimp only
          rw [List.map_append (f := Qi.ob)]
          simp only [List.map_cons, List.map_nil, Qi.ob]
          walk_at "MINE sep"
        · rw [hti, List.map_append]
          exact hinv.one hjk (by omega) (by omega) ⟨hyc, hyn⟩
        · dsimp only; rw [List.map_append (f := Qi.ob)]
          exact List.forall_mem_append.mpr ⟨hgt, List.forall_mem_singleton.mpr l9.2.2.2.2.2.2.2.2.1⟩
        · dsimp only; rw [List.length_append, List.length_singleton]; omega
      · (rename Fr _ _ _ _ => F7); (rename News _ _ _ _ => N7)
        refine turnNext ⟨b, _, vo₂.set j _, os₂.set j (os₂.getD j 0 - 1), new, eq₂⟩ F7 N7 (by walk_at "MINE sep") (by kst_all) ⟨by assumption, hsl₂, hcs, ?_, hgt, by dsimp only; omega⟩
        rw [hti]
        exact hinv.skip hjk (by omega) (by omega)
      · (rename Fr _ _ _ _ => F7); (rename News _ _ _ _ => N7)
        refine turnNext ⟨b, _, vo₂.set j _, os₂.set j (os₂.getD j 0 - 1), new, eq₂⟩ F7 N7 (by walk_at "MINE sep") (by kst_all) ⟨by assumption, hsl₂, hcs, ?_, hgt, by dsimp only; omega⟩
        rw [hti]
        exact hinv.skip hjk (by omega) (by omega)
    case done2 =>
      rintro ⟨b, aY, vo₂, os₂, new, eq₂⟩ u h₆ tk₆ hJ9 F₆ N₆
      refine hideG fun G0 hG0 => ?_
      obtain ⟨hvo₂, hol₂, hcnt, hinv, hgt, hnw⟩ := hJ9
      refine hG0 ?_
      clear hG0
      clear F5 hN5
      dsimp only [kstB] at F₆ N₆ hvo₂ hol₂ hcnt hinv hgt hnw
      rw [List.take_length] at hcnt hinv
      try k_fold
      try dsimp only
      walk_at "MINE go"
      try dsimp only
      walk_at "MINE out"
      refine leaveF F₆ (news' := own6 w τ x dx aC aP aH aO aB aT aR aY em te vs vo₂ (vr ++ [Value.int l tl]) eH eO (eR + 1) oT' ++ (q, listOf ((Qs ++ new).map Qi.rf).toArray eq₂) :: new.map Qi.ob) (fun p hp => N₆ p (.tail _ hp)) ?_
      intro F9 N9 S9
      refine hret _ _ _ _ ⟨b, aY, vs, vo₂, _, eH, eO, _, eq₂, oT', new, ns, os₂, rfl, rfl, hTk, ⟨hvs, hvo₂, hvr'⟩, ⟨hnK, ?_⟩, ⟨hinv.no, ?_, ?_, hinv.sound, ?_⟩, fun p hp => hgt _ (List.mem_map_of_mem hp)⟩ F9 N9 S9
      · refine map_of_getD (F := fun c => (openOf (T ++ [l]) c : Int)) hol₂ fun j hj => ?_
        rw [hcnt j (by omega)]
        have hk := List.getElem?_eq_getElem hj
        rw [cAt_of hk, open_add (proper_nodup (hK _ (List.getElem_mem hj)).2.2) hlT]
        simp only [mem_idx_at hk]
        split <;> omega
      · intro e k hk hlk
        obtain ⟨j, hj⟩ := List.getElem?_of_mem hk
        exact hinv.yes e j k ((mem_idx_at hj).mpr hlk) hj
      · intro k hk hlk
        obtain ⟨j, hj⟩ := List.getElem?_of_mem hk
        exact hinv.unit j k ((mem_idx_at hj).mpr hlk) hj
      · rw [List.length_map]
        exact Nat.le_trans hnw idx_len
-- RunLem
theorem top_RunLem : True := by
  w_top off
  trivial
theorem held_zero {T c : List Int} (h : heldOf T c = 0) : ∀ y ∈ c, y ∉ T := fun y hy hyT => by
  unfold heldOf at h
  have : y ∈ c.filter (fun l => decide (l ∈ T)) := List.mem_filter.mpr ⟨hy, by simpa using hyT⟩
  rw [List.eq_nil_of_length_eq_zero h] at this; cases this
theorem held_pos {T c : List Int} (h : heldOf T c ≠ 0) : ∃ y ∈ c, y ∈ T := by
  unfold heldOf at h
  obtain ⟨y, hy⟩ := List.exists_mem_of_length_pos (Nat.pos_of_ne_zero h)
  have := List.mem_filter.mp hy
  exact ⟨y, this.1, by simpa using this.2⟩
theorem open_zero {T c : List Int} (h : openOf T c = 0) : ∀ y ∈ c, -y ∈ T := fun y hy => by
  unfold openOf at h
  refine Decidable.byContradiction fun hn => ?_
  have : y ∈ c.filter (fun l => decide (-l ∉ T)) := List.mem_filter.mpr ⟨hy, by simpa using hn⟩
  rw [List.eq_nil_of_length_eq_zero h] at this; cases this
theorem open_one {T c : List Int} {y : Int} (h : openOf T c = 1) (hy : y ∈ c) (hn : -y ∉ T) : ∀ z ∈ c, z ≠ y → -z ∈ T := fun z hz hzy => by
  unfold openOf at h
  refine Decidable.byContradiction fun hzn => ?_
  obtain ⟨x, hx⟩ := len_one h
  have h1 : y ∈ c.filter (fun l => decide (-l ∉ T)) := List.mem_filter.mpr ⟨hy, by simpa using hn⟩
  have h2 : z ∈ c.filter (fun l => decide (-l ∉ T)) := List.mem_filter.mpr ⟨hz, by simpa using hzn⟩
  rw [hx, List.mem_singleton] at h1 h2
  exact hzy (h2.trans h1.symm)
theorem held_mono {T c : List Int} {l : Int} (h : heldOf (T ++ [l]) c = 0) : heldOf T c = 0 := by
  refine Decidable.byContradiction fun h1 => ?_
  obtain ⟨y, h2, h3⟩ := held_pos h1
  exact held_zero h y h2 (List.mem_append_left _ h3)
theorem open_same {T c : List Int} {l : Int} (h : -l ∉ c) : openOf (T ++ [l]) c = openOf T c := by
  unfold openOf
  congr 1
  refine List.filter_congr fun x hx => ?_
  have e : ¬ (-x = l) := fun e => h (by have : -l = x := by omega
                                        rw [this]; exact hx)
  simp [List.mem_append, e]

/-- what of each clause holds between two turns of the search -/
def Watch (K : List Kl) (T Q : List Int) : Prop := ∀ k ∈ K, ¬ (heldOf T k.c = 0 ∧ openOf T k.c = 0) ∧ (heldOf T k.c = 0 → openOf T k.c = 1 → ∃ y ∈ Q, y ∈ k.c ∧ -y ∉ T)

theorem watch_take {K : List Kl} {T Q new : List Int} {l : Int} (h : Watch K T Q) (P : TakePost K T l true new) : Watch K (T ++ [l]) (Q ++ new) := fun k hk => by
  by_cases hl : -l ∈ k.c
  · refine ⟨P.yes rfl k hk hl, fun h0 h1 => ?_⟩
    obtain ⟨y, hy, h2⟩ := P.unit k hk hl h0 h1
    exact ⟨y, List.mem_append_right _ hy, h2⟩
  · have e := open_same (T := T) hl
    refine ⟨fun ⟨h0, h1⟩ => (h k hk).1 ⟨held_mono h0, e ▸ h1⟩, fun h0 h1 => ?_⟩
    obtain ⟨y, hy, h2, h3⟩ := (h k hk).2 (held_mono h0) (e ▸ h1)
    refine ⟨y, List.mem_append_left _ hy, h2, ?_⟩
    rw [List.mem_append, List.mem_singleton, not_or]
    refine ⟨h3, fun e2 => hl ?_⟩
    have : -l = y := by omega
    rw [this]; exact h2
theorem closed_watch {K : List Kl} {T Q : List Int} (h : Watch K T Q) (hc : Cons T) (hQ : ∀ y ∈ Q, y ∈ T) (hK : KOk 5 K) {k : Kl} (hk : k ∈ K) : ClosedAt T k.c := by
  by_cases h0 : heldOf T k.c = 0
  · obtain ⟨h1, h2⟩ := h k hk
    by_cases h3 : openOf T k.c = 1
    · obtain ⟨y, hy, hyc, _⟩ := h2 h0 h3
      exact absurd (hQ y hy) (held_zero h0 y hyc)
    · have h4 : openOf T k.c ≠ 0 := fun e => h1 ⟨h0, e⟩
      unfold openOf at h3 h4
      refine closed_many (lf := k.c.filter fun l => decide (-l ∉ T)) (fun y => by simp [List.mem_filter]) ((proper_nodup (hK k hk).2.2).filter _) (fun e => h4 (by rw [e]; rfl)) h3
  · obtain ⟨z, hz, hzT⟩ := held_pos h0
    refine ⟨⟨z, hz, hc z hzT⟩, fun l hl hall => ?_⟩
    by_cases e : z = l
    · exact e ▸ hzT
    · exact absurd (hall z hz e) (hc z hzT)
theorem watch_nil {K : List Kl} {Q : List Int} (h0 : ∀ k ∈ K, k.c ≠ []) (h1 : ∀ k ∈ K, ∀ y, k.c = [y] → y ∈ Q) : Watch K [] Q := fun k hk => by
  have e : openOf [] k.c = k.c.length := by unfold openOf; simp
  rw [e]
  refine ⟨fun h => h0 k hk (List.eq_nil_of_length_eq_zero h.2), fun _ h => ?_⟩
  obtain ⟨y, hy⟩ := len_one h
  exact ⟨y, h1 k hk y hy, by rw [hy]; simp, by simp⟩
theorem take_der {K : List Kl} {lits T new : List Int} {l : Int} {b : Bool} (P : TakePost K T l b new) (hT : ∀ y ∈ T, Der (Kl.cls K) lits y) (hl : Der (Kl.cls K) lits l) : ∀ y ∈ new, Der (Kl.cls K) lits y := fun y hy => by
  obtain ⟨k, hk, hyc, hyn, _, h1⟩ := P.sound y hy
  have hT' : ∀ z ∈ T ++ [l], Der (Kl.cls K) lits z := List.forall_mem_append.mpr ⟨hT, List.forall_mem_singleton.mpr hl⟩
  exact .unit (List.mem_map_of_mem hk) hyc fun z hz hzy => hT' _ (open_one h1 hyc hyn z hz hzy)
theorem take_ok {K : List Kl} {T new : List Int} {l : Int} {b : Bool} (P : TakePost K T l b new) (hK : KOk 5 K) : LitOk new := fun y hy => by
  obtain ⟨k, hk, hyc, _⟩ := P.sound y hy
  obtain ⟨_, h1, h2⟩ := hK k hk
  exact ⟨h2.2 y hyc, h1.2 y hyc⟩
theorem take_clash {K : List Kl} {lits T new : List Int} {l : Int} (P : TakePost K T l false new) (hT : ∀ y ∈ T, Der (Kl.cls K) lits y) (hl : Der (Kl.cls K) lits l) : Clash (Kl.cls K) lits := by
  obtain ⟨k, hk, _, h0⟩ := P.no rfl
  have hT' : ∀ z ∈ T ++ [l], Der (Kl.cls K) lits z := List.forall_mem_append.mpr ⟨hT, List.forall_mem_singleton.mpr hl⟩
  exact .inr ⟨k.c, List.mem_map_of_mem hk, fun y hy => hT' _ (open_zero h0 y hy)⟩
-- Run
theorem top_Run : True := by
  w_top off
  trivial
/-- what is told of the empty clause and of the units -/
structure Beg (K : List Kl) (em : Int) (Bs : List Qi) : Prop where
  em : (0 ≤ em ∧ ∃ k ∈ K, k.c = []) ∨ (em < 0 ∧ ∀ k ∈ K, k.c ≠ [])
  sound : ∀ y ∈ Bs.map Qi.l, ∃ k ∈ K, k.c = [y]
  full : ∀ k ∈ K, ∀ y, k.c = [y] → y ∈ Bs.map Qi.l
  few : Bs.length ≤ K.length
structure RunPost (cls : List (List Int)) (lits T : List Int) (b : Bool) : Prop where
  nd : T.Nodup
  cons : Cons T
  ok : LitOk T
  no : b = false → Clash cls lits
  yes : b = true → ¬ Clash cls lits ∧ ∀ l, l ∈ T ↔ Der cls lits l
theorem assign_pair {w : World} {A : Around} {E : Value → Shared → Prop} {s : Shared} {env : Env} {h₀ : Heap} {a b : Str} {pa pb tp : Pos} {kk : Nat} {T : Addr} {x y : Value} {u : Str → Option Value} {news : List (Addr × Obj)} {Q : Unit → Shared → Prop}
    (hh : A.handled = none) (ha : env.kindOf a = some .local) (hb : env.kindOf b = some .local) (hp : (env.scope.kind == .class || (env.scope.kind == .module && env.locals != env.globals)) = false)
    (F : Fr h₀ env.locals s.heap u) (N : News h₀ env.locals s.heap news) (ht : s.heap.get? T = some (tup [x, y]))
    (h : ∀ h' tk, Fr h₀ env.locals h' (fun z => if z = b then some y else if z = a then some x else u z) → News h₀ env.locals h' news → Q () { s with heap := h', toks := tk }) :
    wpAny (model Prog w) A (assign (.Tuple [.Name a pa, .Name b pb] kk tp) env (.ref T)) Q E s := by
  refine kcp_assign hh ⟨_, ht, rfl, 0, rfl⟩ ha hb hp F.ns fun h' tk hn up => ?_
  refine h h' tk ⟨hn, fun c o e => up c o (fun q => ?_) (F.keep c o e), F.above⟩ fun p hp => ⟨up _ _ (N p hp).2.1 (N p hp).1, (N p hp).2⟩
  have h1 := Heap.lt_size e
  rw [q] at h1
  exact absurd h1 (Nat.not_lt.mpr F.above)
theorem news_pre {h₀ h : Heap} {L : Addr} {a b : List (Addr × Obj)} (N : News h₀ L h (a ++ b)) : News h₀ L h a := fun p hp => N p (List.mem_append_left _ hp)
theorem addL {w : World} {A : Around} {E : Value → Shared → Prop} {s : Shared} {h₀ : Heap} {L l b : Addr} {m : Str → Option Value} {news : List (Addr × Obj)} {vs ws : List Value} {Q : Value → Shared → Prop} (F : Fr h₀ L s.heap m) (N : News h₀ L s.heap news) (hl : s.heap.IsList l vs.toArray) (hb : s.heap.IsList b ws.toArray)
    (h : ∀ D h', Fr h₀ L h' m → News h₀ L h' ((D, listOf (vs ++ ws).toArray 0) :: news) → (∀ p ∈ news, p.1 < D) → Q (.ref D) { s with heap := h' }) (hz : vs.length + ws.length ≤ sizeLine) : wpAny (model Prog w) A (binaryOp .Add (.ref l) (.ref b)) Q E s :=
  add_lists F N hl hb (fun h' F' N' => h _ h' F' N' fun p hp => Heap.lt_size (N p hp).1) hz
set_option genInjectivity false in
set_option genSizeOf false in
structure RnS where
  T : List Int
  hs : List Int
  os : List Int
  vh : List Value
  vo : List Value
  vr : List Value
  eH : Nat
  eO : Nat
  eR : Nat
  aX : Addr
  oT : Obj
  Ns : List Qi
  eq : Nat
  spot : Nat
  tk : Tok
inductive RunR (w : World) (τ : Nat → Tok) (x dx aC aP aH aO aB aT aR : Addr) (em : Int) (te : Tok) (K : List Kl) (lits : List Int) (v : Value) (own : List (Addr × Obj)) : Prop
  | mk (b : Bool) (aX' : Addr) (vh' vo' vr' : List Value) (eH' eO' eR' : Nat) (oT' : Obj) (T hs' os' : List Int) (hv : v = .bool b) (hown : own = own6 w τ x dx aC aP aH aO aB aT aR aX' em te vh' vo' vr' eH' eO' eR' oT')
      (hT : TakenAt w oT' T) (hi : IntsAre vh' hs' ∧ IntsAre vo' os' ∧ IntsAre vr' T) (hHO : HO K T hs' os') (P : RunPost (Kl.cls K) lits T b) : RunR w τ x dx aC aP aH aO aB aT aR em te K lits v own
theorem run_c {w : World} {τ : Nat → Tok} {x dx aC aP aH aO aB aT aR aX lp : Addr} {em : Int} {te : Tok} {eH eO eR eB eL : Nat} {vh vo vr vl : List Value} {oT : Obj} {I : List (Addr × Obj)} {K : List Kl} {hs os lits : List Int} {Bs : List Qi}
    (ho : Ord6 x dx aH aO aT aR) (hF : Fix w I K aC aP) (hK : KOk 5 K) (hKl : K.length ≤ 11) (hT : TakenAt w oT []) (htm : (aT == sysModules) = false) (hv : IntsAre vh hs ∧ IntsAre vo os ∧ IntsAre vr []) (hHO : HO K [] hs os)
    (hB : Beg K em Bs) (hBl : (aB, listOf (Bs.map Qi.rf).toArray eB) ∈ I) (hBt : ∀ p ∈ Bs.map Qi.ob, p ∈ I) (hL : (lp, listOf vl.toArray eL) ∈ I) (hvl : IntsAre vl lits) (hlo : LitOk lits) (hll : lits.length ≤ 12) :
    Does w 123 [.ref x, .ref lp] (own6 w τ x dx aC aP aH aO aB aT aR aX em te vh vo vr eH eO eR oT) I 6
      (RunR w τ x dx aC aP aH aO aB aT aR em te K lits) := by
  intro mean mg mb dp un gd cn cs a ccd cl outer A₀ base h₀ L m rest s Q E G hk' F N hsep himm hd hu hret
  walk_at "MINE in"
  intro g L' h₁ tk₁ FG F' N' G' st lt
  refine hideF (by passes_own) rfl fun AA Qf Ef hAA hAh hEf hQf => ?_
  have hI : ∀ p ∈ I, g.get? p.1 = some p.2 := fun p hp => st _ _ (himm p hp).1 (himm p hp).2
  clear F N G st himm hsep
  have ⟨B', X', T'⟩ := G'
  refine hideG fun G0 hG0 => ?_
  obtain ⟨o1, o2, o3, o4, o5⟩ := ho
  obtain ⟨kT, hkT, hkeys⟩ := hT
  obtain ⟨hvh, hvo, hvr⟩ := hv
  refine hG0 ?_
  clear hG0
  have hgB := hI _ hBl
  have hgL := hI _ hL
  have hLl : g.IsList lp vl.toArray := ⟨_, hgL, rfl, _, rfl⟩
  have hLB : g.IsList aB (Bs.map Qi.rf).toArray := ⟨_, hgB, rfl, _, rfl⟩
  try dsimp only [own6] at N' lt
  try simp only [List.cons_append, List.nil_append] at N'
  try simp only [List.cons_append, List.nil_append] at lt
  k_lt lt
  try dsimp only
  try k_fold
  walk_at "MINE go"
  · rename_i hem D' h2 l1 h3 F3 N3
    try dsimp only
    walk_at "MINE out"
    refine leaveF F3 (news' := own6 w τ x dx aC aP aH aO aB aT aR D' em te vh vo vr eH eO eR oT) (fun p hp => N3 p (.tail _ hp)) ?_
    intro F9 N9 S9
    refine hret _ _ _ _ ⟨false, D', vh, vo, vr, eH, eO, eR, oT, [], hs, os, rfl, rfl, ⟨kT, hkT, hkeys⟩, ⟨hvh, hvo, hvr⟩, hHO, .nil, fun _ h => (nomatch h), fun _ h => (nomatch h), fun _ => ?_, fun e => nomatch e⟩ F9 N9 S9
    rcases hB.em with ⟨_, k, hk, hk0⟩ | ⟨h1, _⟩
    · exact .inr ⟨k.c, List.mem_map_of_mem hk, by rw [hk0]; exact fun _ h => nomatch h⟩
    · omega
  · rename_i hem
    have hne : ∀ k ∈ K, k.c ≠ [] := by
      rcases hB.em with ⟨h1, _⟩ | ⟨_, h1⟩
      · exact absurd h1 hem
      · exact h1
    have hvll := hvl.length
    refine halt_mk ?_
    refine comp_list (σ := List Qi) (fun c => own6 w τ x dx aC aP aH aO aB aT aR aX em te vh vo vr eH eO eR oT ++ c.map Qi.ob) (fun i ys c => ys = c.map Qi.rf ∧ c.map Qi.l = lits.take i ∧ ∀ p ∈ c.map Qi.ob, @LT.lt Nat _ aR p.1) [] hAh
      (.inl hLl) (by rw [sizeLine_eq]; omega) (by decide) rfl F' N' ⟨rfl, rfl, fun _ h => nomatch h⟩ (.inl fun _ _ => rfl) ?pturn (rr_eval ?pdone)
    case pturn =>
      rintro j v ys c u₃ h₆ tk₆ C I₂ D₂ nD oL oI₂ E₂ hv₂ hlen₂ hJ9 hoffC hbC F₈ N₈ hL
      refine hideG fun G0 hG0 => ?_
      obtain ⟨hys, hcx, hgt⟩ := hJ9
      refine hG0 ?_
      clear hG0
      clear F' N'
      refine hideG fun G0 hG0 => ?_
      obtain ⟨y, ty, rfl, hy⟩ := hvl.at j v hv₂
      refine hG0 ?_
      clear hG0
      have htj : lits.take (j + 1) = lits.take j ++ [y] := by rw [List.take_add_one, hy]; rfl
      refine turn_name (by decide) rfl F₈ N₈ fun h₇ tk₇ F₉ N₉ => wpAny_tests_nil ?_
      clear F₈ N₈
      dsimp only [own6] at N₉
      simp only [List.cons_append, List.nil_append] at N₉
      simp only [if_true]
      try k_fold
      walk_at "MINE go"
      (try k_unfold)
      rename Fr _ _ _ _ => F10; rename News _ _ _ _ => N10
      rename_i D₅ _ l5
      refine eltEnd (led := fun c : List Qi => own6 w τ x dx aC aP aH aO aB aT aR aX em te vh vo vr eH eO eR oT ++ c.map Qi.ob) (c ++ [⟨D₅, y, ty, -1, tk₇ + 1⟩]) F10 ?_ ?_ ⟨by rw [hys, List.map_append]; rfl, by rw [List.map_append, hcx, htj]; rfl, ?_⟩
      · rw [List.map_append (f := Qi.ob)]
        simp only [List.map_cons, List.map_nil, Qi.ob]
        intro p hp
        refine N10 p ?_
        revert p
        walk_at "MINE sub"
      · rw [List.map_append (f := Qi.ob)]
        simp only [List.map_cons, List.map_nil, Qi.ob]
        intro p hp q hq
        rcases List.mem_append.mp hq with hq | hq
        · exact hoffC p hp q (List.mem_append_left _ hq)
        · rcases List.mem_append.mp hq with hq | hq
          · exact hoffC p hp q (List.mem_append_right _ hq)
          · rw [List.mem_singleton.mp hq]
            have l7 : p.1 < D₅ := by
              rcases List.mem_cons.mp hp with rfl | hp
              · exact l5.1
              · rcases List.mem_cons.mp hp with rfl | hp
                · exact l5.2.1
                · rw [List.mem_singleton.mp hp]; exact l5.2.2.1
            first | exact Nat.ne_of_lt l7 | exact Nat.ne_of_lt l7.1
      · rw [List.map_append (f := Qi.ob)]
        exact List.forall_mem_append.mpr ⟨hgt, List.forall_mem_singleton.mpr l5.2.2.2.2.2.2.2.2.1⟩
    case pdone =>
      intro D₂ c h₆ tk₆ ys nD ⟨hys, hcx, hgt⟩ F₈ N₈ hD₂
      clear F' N'
      rw [hvll, List.take_length] at hcx
      subst hys
      dsimp only [own6] at N₈
      simp only [List.cons_append, List.nil_append] at N₈
      have hcl : c.length ≤ 12 := by have := congrArg List.length hcx; rw [List.length_map] at this; omega
      have hBf := hB.few
      try k_fold
      try dsimp only
      refine addL F₈ N₈ (hLB.at fun o e => F₈.keep _ _ e) ⟨_, (N₈ _ (.head _)).1, rfl, _, rfl⟩ (fun q h' F' N' l9 => ?_) (by rw [sizeLine_eq, List.length_map, List.length_map]; omega)
      clear F₈ N₈ hD₂
      have hq : @LT.lt Nat _ aR q := l9 (aR, _) (.tail _ (.tail _ (.tail _ (.tail _ (.tail _ (.tail _ (.head _)))))))
      have hqN : ∀ p ∈ c.map Qi.ob, @LT.lt Nat _ p.1 q := fun p hp => l9 p (.tail _ (.tail _ (.tail _ (.tail _ (.tail _ (.tail _ (.tail _ hp)))))))
      clear l9
      rw [← List.map_append] at N'
      (try k_unfold)
      try dsimp only
      walk_at "MINE go"
      (rename Fr _ _ _ _ => F5); (rename News _ _ _ _ => N5)
      have hQ0 : ∀ y ∈ (Bs ++ c).map Qi.l, Der (Kl.cls K) lits y ∧ y ≠ 0 ∧ y.natAbs ≤ 4 := fun y hy => by
        rw [List.map_append, hcx] at hy
        rcases List.mem_append.mp hy with hy | hy
        · obtain ⟨k, hk, hky⟩ := hB.sound y hy
          refine hideG fun G0 hG0 => ?_
          obtain ⟨_, hk1, hk2⟩ := hK k hk
          refine hG0 ?_
          clear hG0
          have hyk : y ∈ k.c := by rw [hky]; simp
          exact ⟨.unit (List.mem_map_of_mem hk) hyk (fun z hz hzy => absurd (by rw [hky] at hz; simpa using hz) hzy), hk2.2 y hyk, hk1.2 y hyk⟩
        · exact ⟨.base hy, hlo y hy⟩
      refine halt_mk ?_
      refine loop_while (σ := RnS) (fun z => own6 w τ x dx aC aP aH aO aB aT aR z.aX em te z.vh z.vo z.vr z.eH z.eO z.eR z.oT ++ (q, listOf ((Bs ++ z.Ns).map Qi.rf).toArray z.eq) :: z.Ns.map Qi.ob) (fun z => [(Str.ofString "queue", .ref q), (Str.ofString "spot", .int (z.spot : Int) z.tk), (Str.ofString "self", .ref x)])
        (fun z => (TakenAt w z.oT z.T ∧ (IntsAre z.vh z.hs ∧ IntsAre z.vo z.os ∧ IntsAre z.vr z.T) ∧ HO K z.T z.hs z.os) ∧ (z.T.Nodup ∧ Cons z.T ∧ LitOk z.T ∧ ∀ y ∈ z.T, Der (Kl.cls K) lits y) ∧ (∀ y ∈ (Bs ++ z.Ns).map Qi.l, Der (Kl.cls K) lits y ∧ y ≠ 0 ∧ y.natAbs ≤ 4) ∧
          z.spot ≤ (Bs ++ z.Ns).length ∧ (∀ y ∈ ((Bs ++ z.Ns).take z.spot).map Qi.l, y ∈ z.T) ∧ (∀ y ∈ lits, y ∈ (Bs ++ z.Ns).map Qi.l) ∧ Watch K z.T ((Bs ++ z.Ns).map Qi.l) ∧ (∀ p ∈ z.Ns.map Qi.ob, @LT.lt Nat _ aR p.1) ∧ z.Ns.length ≤ 12 + 11 * z.T.length)
        (fun z => ((Bs ++ z.Ns).length - z.spot) + 12 * (4 - z.T.length)) ⟨[], hs, os, vh, vo, vr, eH, eO, eR, aX, oT, c, 0, 0, _⟩ F5 (fun p hp => N5 p (by revert p; walk_at "MINE sub")) (by kst_all)
        ⟨⟨⟨kT, hkT, hkeys⟩, ⟨hvh, hvo, hvr⟩, hHO⟩, ⟨.nil, fun _ h => (nomatch h), fun _ h => (nomatch h), fun _ h => (nomatch h)⟩, hQ0, Nat.zero_le _, fun _ h => (nomatch h), fun y hy => by rw [List.map_append, hcx]; exact List.mem_append_right _ hy,
          watch_nil hne fun k hk y hy => by rw [List.map_append]; exact List.mem_append_left _ (hB.full k hk y hy), hgt, by dsimp only; simp only [List.length_nil]; omega⟩ ?wturn
      clear F5 N5
      rintro hJ9 u h₄ tk₄ hJ8 F₄ N₄ Qt hQt
      refine hideG fun G0 hG0 => ?_
      obtain ⟨T, hs, os, vh, vo, vr, eH, eO, eR, aX, oT, Ns, eq, spot, tks⟩ := hJ9
      obtain ⟨⟨hTk, ⟨hvh, hvo, hvr⟩, hHO⟩, ⟨hnd, hcons, hok, hder⟩, hQd, hsp, hdone, hlits, hwatch, hgtN, hNl⟩ := hJ8
      refine hG0 ?_
      clear hG0
      dsimp only [kstB] at F₄ N₄ hTk hvh hvo hvr hHO hnd hcons hok hder hQd hsp hdone hlits hwatch hgtN hNl
      have hT4 := cons_len hnd hcons hok
      have hTkk := hTk
      refine hideG fun G0 hG0 => ?_
      obtain ⟨kT', hkT', hkeys'⟩ := hTkk
      refine hG0 ?_
      clear hG0
      have hzl : (List.map Qi.rf (Bs ++ Ns)).length = Bs.length + Ns.length := by rw [List.length_map, List.length_append]
      have hqn : ∀ p ∈ Ns.map Qi.ob, q ≠ p.1 := fun p hp => by
        refine hideG fun G0 hG0 => ?_
        obtain ⟨z, hz, rfl⟩ := List.mem_map.mp hp
        refine hG0 ?_
        clear hG0
        exact ne_of_cls (o' := z.ob.2) N₄ (.tail _ (.tail _ (.tail _ (.tail _ (.tail _ (.tail _ (.head _))))))) (.tail _ (.tail _ (.tail _ (.tail _ (.tail _ (.tail _ (.tail _ (List.mem_map_of_mem (f := Qi.ob) hz))))))))
          (by show Value.type "list" ≠ Value.type "tuple"; decide)
      simp only [List.length_append] at hsp
      dsimp only [own6] at N₄
      simp only [List.cons_append, List.nil_append] at N₄
      by_cases hlt : spot < Bs.length + Ns.length
      · obtain ⟨qi, hqi⟩ : ∃ qi, (Bs ++ Ns)[spot]? = some qi := ⟨_, List.getElem?_eq_getElem (by rw [List.length_append]; exact hlt)⟩
        have hx9 : (List.map Qi.rf (Bs ++ Ns)).toArray[((spot : Int)).toNat]? = some (.ref qi.a) := by
          show (List.map Qi.rf (Bs ++ Ns)).toArray[spot]? = _
          simp only [List.getElem?_toArray, List.getElem?_map, hqi]; rfl
        try k_fold
        walk_at "MINE go"
        (rename Fr _ _ _ _ => F5); (rename News _ _ _ _ => N5)
        have hqm : qi ∈ Bs ++ Ns := List.mem_of_getElem? hqi
        have hql : qi.l ∈ (Bs ++ Ns).map Qi.l := List.mem_map_of_mem hqm
        have hti : (Bs ++ Ns).take (spot + 1) = (Bs ++ Ns).take spot ++ [qi] := by rw [List.take_add_one, hqi]; rfl
        refine hideG fun G0 hG0 => ?_
        obtain ⟨hqd, hq0, hq4⟩ := hQd _ hql
        refine hG0 ?_
        clear hG0
        refine assign_pair (x := .int qi.l qi.t) (y := .int qi.n qi.u) rfl rfl rfl rfl F5 N5 ?_ fun h₅ tk₅ F₅ N₅ => ?_
        · rcases List.mem_append.mp hqm with hm | hm
          · exact F5.keep _ _ (hI _ (hBt _ (List.mem_map_of_mem hm)))
          · exact (N5 qi.ob (by simp only [List.mem_cons]; exact .inr (.inr (.inr (.inr (.inr (.inr (.inr (List.mem_map_of_mem hm))))))))).1
        clear F5 N5
        try dsimp only
        try k_fold
        walk_at "MINE go"
        · rename_i D3 h7 l3 h8 F6 N6
          rename ((valueAt kT' (-qi.l)).isSome = true) => h1
          try dsimp only
          have hneg := (taken_mem hkeys').mp h1
          have N7 : News g L' h8 (own6 w τ x dx aC aP aH aO aB aT aR D3 em te vh vo vr eH eO eR oT) := news_pre (b := (q, listOf ((Bs ++ Ns).map Qi.rf).toArray eq) :: Ns.map Qi.ob) fun p hp => N6 p (.tail _ hp)
          try dsimp only [qk]
          try k_unfold
          try dsimp only [WTurnEnd]
          walk_at "MINE out"
          refine leaveF F6 N7 ?_
          intro F9 N9 S9
          exact hret _ _ _ _ ⟨false, D3, vh, vo, vr, eH, eO, eR, oT, T, hs, os, rfl, rfl, hTk, ⟨hvh, hvo, hvr⟩, hHO, hnd, hcons, hok, fun _ => .inl ⟨qi.l, hqd, hder _ hneg⟩, fun e => nomatch e⟩ F9 N9 S9
        · (rename Fr _ _ _ _ => F6); (rename News _ _ _ _ => N6); rename ((valueAt kT' qi.l).isSome = true) => h2
          have hpos := (taken_mem hkeys').mp h2
          refine wturnNext ⟨T, hs, os, vh, vo, vr, eH, eO, eR, aX, oT, Ns, eq, spot + 1, _⟩ F6 N6 (by kst_all) ⟨⟨hTk, ⟨hvh, hvo, hvr⟩, hHO⟩, ⟨hnd, hcons, hok, hder⟩, hQd, by dsimp only; rw [List.length_append]; omega, ?_, hlits, hwatch, hgtN, hNl⟩ (by dsimp only; rw [List.length_append]; omega)
          dsimp only
          rw [hti, List.map_append]
          exact List.forall_mem_append.mpr ⟨hdone, List.forall_mem_singleton.mpr hpos⟩
        · (rename Fr _ _ _ _ => F6); (rename News _ _ _ _ => N6); rename ((valueAt kT' (-qi.l)).isSome = false) => h1; rename ((valueAt kT' qi.l).isSome = false) => h2
          have hn1 := (taken_not hkeys').mp h1
          have hn2 := (taken_not hkeys').mp h2
          have hnd' := nodup_snoc hnd hn2
          have hcons' := cons_snoc hcons hn1 hq0
          have hok' : LitOk (T ++ [qi.l]) := List.forall_mem_append.mpr ⟨hok, List.forall_mem_singleton.mpr ⟨hq0, hq4⟩⟩
          have hT4' := cons_len hnd' hcons' hok'
          have hder' : ∀ y ∈ T ++ [qi.l], Der (Kl.cls K) lits y := List.forall_mem_append.mpr ⟨hder, List.forall_mem_singleton.mpr hqd⟩
          rw [List.length_append, List.length_singleton] at hT4'
          refine Does.useA hAA (Ns.map Qi.ob) (take_c (Qs := Bs ++ Ns) (eq := eq) ⟨o1, o2, o3, o4, o5⟩ hq hF hK hKl hTk htm ⟨hvh, hvo, hvr⟩ hHO hn2 hn1 hT4 (by rw [List.length_append]; omega)) G' rfl F6 N6 (by kst_inAny) (by walk_at "MINE sep") (fun p hp => .inl (hI p hp)) (by walk_at "MINE room") (by walk_at "MINE room") ?_
          rintro v9 own9 h₇ tk₇ hJ9 F₇ N₇ S₇
          refine hideG fun G0 hG0 => ?_
          obtain ⟨b, aX₂, vh₂, vo₂, vr₂, eH₂, eO₂, eR₂, eq₂, oT₂, new, hs₂, os₂, rfl, rfl, hTk₂, hv₂, hHO₂, P, hnewq⟩ := hJ9
          refine hG0 ?_
          clear hG0
          clear F6 N6 S₇ F₅ N₅
          have hnl := P.few
          rw [List.length_map] at hnl
          cases b with
          | false =>
            try dsimp only
            try k_fold
            walk_at "MINE go"
            try dsimp only
            try k_unfold
            try dsimp only [WTurnEnd]
            walk_at "MINE out"
            refine leaveF F₇ (news' := own6 w τ x dx aC aP aH aO aB aT aR aX₂ em te vh₂ vo₂ vr₂ eH₂ eO₂ eR₂ oT₂) (fun p hp => N₇ p (List.mem_append_left _ (List.mem_append_left _ hp))) ?_
            intro F9 N9 S9
            exact hret _ _ _ _ ⟨false, aX₂, vh₂, vo₂, vr₂, eH₂, eO₂, eR₂, oT₂, _, hs₂, os₂, rfl, rfl, hTk₂, hv₂, hHO₂, hnd', hcons', hok', fun _ => take_clash P hder hqd, fun e => nomatch e⟩ F9 N9 S9
          | true =>
            try dsimp only
            try k_fold
            walk_at "MINE go"
            try dsimp only
            try k_unfold
            have eA : Bs ++ Ns ++ new = Bs ++ (Ns ++ new) := List.append_assoc _ _ _
            have eT : (Bs ++ (Ns ++ new)).take (spot + 1) = (Bs ++ Ns).take spot ++ [qi] := by
              rw [← eA, List.take_append_of_le_length (by rw [List.length_append]; omega), hti]
            have hnd2 := take_der P hder hqd
            have hno2 := take_ok P hK
            refine wturnNext ⟨T ++ [qi.l], hs₂, os₂, vh₂, vo₂, vr₂, eH₂, eO₂, eR₂, aX₂, oT₂, Ns ++ new, eq₂, spot + 1, _⟩ F₇ ?_ (by kst_all) ⟨⟨hTk₂, hv₂, hHO₂⟩, ⟨hnd', hcons', hok', hder'⟩, ?_, ?_, ?_, ?_, ?_, ?_, ?_⟩ ?_
            · dsimp only
              rw [← eA]
              intro p hp
              refine N₇ p ?_
              rw [List.map_append (f := Qi.ob)] at hp
              have hp : p ∈ own6 w τ x dx aC aP aH aO aB aT aR aX₂ em te vh₂ vo₂ vr₂ eH₂ eO₂ eR₂ oT₂ ++ (q, listOf ((Bs ++ Ns ++ new).map Qi.rf).toArray eq₂) :: (Ns.map Qi.ob ++ new.map Qi.ob) := hp
              rcases List.mem_append.mp hp with hp | hp
              · exact List.mem_append_left _ (List.mem_append_left _ hp)
              · rcases List.mem_cons.mp hp with rfl | hp
                · exact List.mem_append_left _ (List.mem_append_right _ (.head _))
                · rcases List.mem_append.mp hp with hp | hp
                  · exact List.mem_append_right _ hp
                  · exact List.mem_append_left _ (List.mem_append_right _ (.tail _ hp))
            · dsimp only
              rw [← eA, List.map_append]
              exact List.forall_mem_append.mpr ⟨hQd, fun y hy => ⟨hnd2 y hy, hno2 y hy⟩⟩
            · dsimp only; rw [← eA, List.length_append, List.length_append]; omega
            · dsimp only
              rw [eT, List.map_append]
              exact List.forall_mem_append.mpr ⟨fun y hy => List.mem_append_left _ (hdone y hy), List.forall_mem_singleton.mpr (by simp)⟩
            · dsimp only
              rw [← eA, List.map_append]
              exact fun y hy => List.mem_append_left _ (hlits y hy)
            · dsimp only
              rw [← eA, List.map_append]
              exact watch_take hwatch P
            · dsimp only
              rw [List.map_append]
              refine List.forall_mem_append.mpr ⟨hgtN, fun p hp => ?_⟩
              refine hideG fun G0 hG0 => ?_
              obtain ⟨z, hz, rfl⟩ := List.mem_map.mp hp
              refine hG0 ?_
              clear hG0
              exact Nat.lt_trans hq (hnewq z hz)
            · dsimp only; rw [List.length_append, List.length_append, List.length_singleton]; omega
            · dsimp only; rw [List.length_append, List.length_append, List.length_append, List.length_append, List.length_singleton]; omega
      · try k_fold
        walk_at "MINE go"
        try dsimp only
        (rename Fr _ _ _ _ => F5); (rename News _ _ _ _ => N5)
        walk_at "MINE out"
        refine leaveF F5 (news' := own6 w τ x dx aC aP aH aO aB aT aR aX em te vh vo vr eH eO eR oT) (news_pre (b := (q, listOf ((Bs ++ Ns).map Qi.rf).toArray eq) :: Ns.map Qi.ob) N5) ?_
        intro F9 N9 S9
        have hsp' : spot = (Bs ++ Ns).length := by rw [List.length_append]; omega
        rw [hsp', List.take_length] at hdone
        have hcl := closed_up (cls := Kl.cls K) (lits := lits) (T := T) (fun l hl => hdone l (hlits l hl)) hder hcons fun c hc => by
          refine hideG fun G0 hG0 => ?_
          obtain ⟨k, hk, rfl⟩ := List.mem_map.mp hc
          refine hG0 ?_
          clear hG0
          exact closed_watch hwatch hcons hdone hK hk
        exact hret _ _ _ _ ⟨true, aX, vh, vo, vr, eH, eO, eR, oT, T, hs, os, rfl, rfl, hTk, ⟨hvh, hvo, hvr⟩, hHO, hnd, hcons, hok, fun e => (nomatch e), fun _ => hcl⟩ F9 N9 S9
-- Undo
theorem top_Undo : True := by
  w_top off
  trivial
local macro_rules | `(tactic| walk_at "delItem ref int") => `(tactic| (k_here; k_dflt (refine' dDel (by k_asm) (by k_asm) (by k_updF) (by with_reducible assumption) (intKind_is _ _ _ _) (by assumption) ?_ (by rw [sizeLine_eq]; omega); k_whole); intro h' o' F' N' D'; (try dsimp only at N'); (try k_sweep)))
set_option genInjectivity false in
set_option genSizeOf false in
structure UnS where
  T : List Int
  hs : List Int
  os : List Int
  vh : List Value
  vo : List Value
  vr : List Value
  eR : Nat
  oT : Obj
theorem without_keys {kT : List (Int × Value)} {T0 : List Int} {l : Int} (h : kT.map (·.1) = T0 ++ [l]) (hl : l ∉ T0) : (without kT l).map (·.1) = T0 := by
  unfold without
  have e : (kT.filter fun kv => decide (kv.1 ≠ l)).map (·.1) = (kT.map (·.1)).filter (fun x => decide (x ≠ l)) := by rw [List.filter_map]; rfl
  rw [e, h, List.filter_append]
  have h1 : T0.filter (fun x => decide (x ≠ l)) = T0 := List.filter_eq_self.mpr fun x hx => by
    have : x ≠ l := fun e => hl (e ▸ hx)
    simpa using this
  rw [h1]
  simp
inductive UndoR (w : World) (τ : Nat → Tok) (x dx aC aP aH aO aB aT aR aX : Addr) (em : Int) (te : Tok) (eH eO : Nat) (K : List Kl) (v : Value) (own : List (Addr × Obj)) : Prop
  | mk (vh' vo' : List Value) (eR' : Nat) (oT' : Obj) (hs' os' : List Int) (hv : v = .none) (hown : own = own6 w τ x dx aC aP aH aO aB aT aR aX em te vh' vo' [] eH eO eR' oT') (hT : TakenAt w oT' []) (hi : IntsAre vh' hs' ∧ IntsAre vo' os') (hHO : HO K [] hs' os') : UndoR w τ x dx aC aP aH aO aB aT aR aX em te eH eO K v own
theorem undo_c {w : World} {τ : Nat → Tok} {x dx aC aP aH aO aB aT aR aX : Addr} {em : Int} {te : Tok} {eH eO eR : Nat} {vh vo vr : List Value} {oT : Obj} {I : List (Addr × Obj)} {K : List Kl} {T hs os : List Int}
    (ho : Ord6 x dx aH aO aT aR) (hF : Fix w I K aC aP) (hK : KOk 5 K) (hKl : K.length ≤ 11) (hT : TakenAt w oT T) (htm : (aT == sysModules) = false) (hv : IntsAre vh hs ∧ IntsAre vo os ∧ IntsAre vr T) (hHO : HO K T hs os) (hnd : T.Nodup) (hTl : T.length ≤ 4) :
    Does w 130 [.ref x] (own6 w τ x dx aC aP aH aO aB aT aR aX em te vh vo vr eH eO eR oT) I 10
      (UndoR w τ x dx aC aP aH aO aB aT aR aX em te eH eO K) := by
  intro mean mg mb dp un gd cn cs a ccd cl outer A₀ base h₀ L m rest s Q E G hk' F N hsep himm hd hu hret
  walk_at "MINE in"
  intro g L' h₁ tk₁ FG F' N' G' st lt
  refine hideF (by passes_own) rfl fun AA Qf Ef hAA hAh hEf hQf => ?_
  have hI : ∀ p ∈ I, g.get? p.1 = some p.2 := fun p hp => st _ _ (himm p hp).1 (himm p hp).2
  clear F N G st himm hsep
  have ⟨B', X', T'⟩ := G'
  refine hideG fun G0 hG0 => ?_
  obtain ⟨o1, o2, o3, o4, o5⟩ := ho
  obtain ⟨oP, kvs, hoP, hPm, hkvs, hpl⟩ := hF.hP
  have hgP := hI _ hoP
  obtain ⟨hvh, hvo, hvr⟩ := hv
  refine hG0 ?_
  clear hG0
  try dsimp only [own6] at N' lt
  try simp only [List.cons_append, List.nil_append] at N'
  try simp only [List.cons_append, List.nil_append] at lt
  k_lt lt
  try dsimp only
  try k_fold
  walk_at "MINE go"
  refine halt_mk ?_
  refine loop_while (σ := UnS) (fun z => own6 w τ x dx aC aP aH aO aB aT aR aX em te z.vh z.vo z.vr eH eO z.eR z.oT) (fun z => [(Str.ofString "self", .ref x)])
    (fun z => TakenAt w z.oT z.T ∧ (IntsAre z.vh z.hs ∧ IntsAre z.vo z.os ∧ IntsAre z.vr z.T) ∧ HO K z.T z.hs z.os ∧ z.T.Nodup ∧ z.T.length ≤ 4) (fun z => z.T.length) ⟨T, hs, os, vh, vo, vr, eR, oT⟩ F' N' (by kst_all)
    ⟨hT, ⟨hvh, hvo, hvr⟩, hHO, hnd, hTl⟩ ?wturn
  clear F' N' hT hvh hvo hvr hHO hnd hTl
  rintro hJ9 u h₄ tk₄ hJ8 F₄ N₄ Qt hQt
  refine hideG fun G0 hG0 => ?_
  obtain ⟨T, hs, os, vh, vo, vr, eR, oT⟩ := hJ9
  obtain ⟨hTk, ⟨hvh, hvo, hvr⟩, hHO, hnd, hTl⟩ := hJ8
  refine hG0 ?_
  clear hG0
  dsimp only [kstB, own6] at F₄ N₄ hTk hvh hvo hvr hHO hnd hTl
  have hrl := hvr.length
  refine hideG fun G0 hG0 => ?_
  obtain ⟨kT, hkT, hkeys⟩ := hTk
  refine hG0 ?_
  clear hG0
  have hkTl : kT.length ≤ 4 := by have := congrArg List.length hkeys; rw [List.length_map] at this; omega
  rcases List.eq_nil_or_concat T with rfl | ⟨T0, l, eT⟩
  · try k_fold
    walk_at "MINE go"
    try dsimp only
    (rename Fr _ _ _ _ => F5); (rename News _ _ _ _ => N5)
    walk_at "MINE out"
    refine leaveF F5 (news' := own6 w τ x dx aC aP aH aO aB aT aR aX em te vh vo vr eH eO eR oT) (fun p hp => N5 p (.tail _ hp)) ?_
    intro F9 N9 S9
    have hv0 : vr = [] := List.eq_nil_of_length_eq_zero hrl
    subst hv0
    exact hret _ _ _ _ ⟨vh, vo, eR, oT, hs, os, rfl, rfl, ⟨kT, hkT, hkeys⟩, ⟨hvh, hvo⟩, hHO⟩ F9 N9 S9
  · rw [List.concat_eq_append] at eT
    subst eT
    have hpos : 0 < vr.length := by rw [hrl]; simp
    have hl0 : l ∉ T0 := by
      rw [List.nodup_append] at hnd
      exact fun h => hnd.2.2 _ h _ (by simp) rfl
    have hnd0 : T0.Nodup := (List.nodup_append.mp hnd).1
    try k_fold
    walk_at "MINE go"
    · rename (decide (T0 ++ [l] = []) = true) => h1
      simp at h1
    · (rename Fr _ _ _ _ => F5); (rename News _ _ _ _ => N5); (rename IntsAre vr.dropLast _ => hvr5); (rename Tok => tq)
      have e1 : (T0 ++ [l]).getLastD 0 = l := by simp
      rw [List.dropLast_concat] at hvr5
      rw [e1] at F5
      rw [e1]
      have hmem : (valueAt kT l).isSome = true := (taken_mem hkeys).mpr (by simp)
      walk_at "MINE go"
      walk_at "MINE for"
      walk_at "MINE go"
      try clear N5
      rename_i oT' dT D0 h3 F3 N3 l1
      have hN3 : News g L' h3 ((D0, tup []) :: own6 w τ x dx aC aP aH aO aB aT aR aX em te vh vo vr.dropLast eH eO (eR + 1) oT') := fun p hp => by
        rcases List.mem_cons.mp hp with rfl | hp
        · exact N3 _ (.head _)
        · exact N3 p (.tail _ (.tail _ hp))
      clear N3
      have hTk : TakenAt w oT' T0 := ⟨_, dT, without_keys hkeys hl0⟩
      obtain ⟨hHs, hOs⟩ := hHO
      have hsl : hs.length = K.length := by rw [hHs, List.length_map]
      have hol : os.length = K.length := by rw [hOs, List.length_map]
      refine loop_places (σ := List Value × List Int) (K := K) (l := l) (D0 := D0) (fun c => (D0, tup []) :: own6 w τ x dx aC aP aH aO aB aT aR aX em te c.1 vo vr.dropLast eH eO (eR + 1) oT')
        (fun _ => [(Str.ofString "literal", .int l tq), (Str.ofString "self", .ref x)])
        (fun i c => IntsAre c.1 c.2 ∧ c.2.length = K.length ∧ ∀ j < c.2.length, c.2.getD j 0 = (heldOf (T0 ++ [l]) (cAt K j) : Int) + (if (j : Int) ∈ (idx K l).take i then -1 else 0)) (vh, hs) hAh hI (hpl l) (fun _ _ _ => .head _) F3 hN3 (by kst_all)
        ⟨hvh, hsl, fun j hj => by dsimp only at hj ⊢; rw [hHs, getD_of_map (F := fun c => (heldOf (T0 ++ [l]) c : Int)) (by omega)]; simp⟩ ?turn ?done
      case turn =>
        rintro i j k t ⟨vs, ns⟩ u h₄ tk₄ II oI hij hjk hlk hJ9 hoff F₄ N₄
        clear hsl hol
        refine hideQ fun Qt hQt => ?_
        refine hideG fun G0 hG0 => ?_
        obtain ⟨hvs, hnl, hcnt⟩ := hJ9
        refine hG0 ?_
        clear hG0
        clear F3 hN3
        dsimp only [kstB, own6] at F₄ N₄ hvs hnl hcnt hoff
        have hoff' := allNe_of hoff
        dsimp only [List.cons_append, List.nil_append, AllNe] at hoff'
        have hjK : j < K.length := (List.getElem?_eq_some_iff.mp hjk).1
        try k_fold
        walk_at "MINE go"
        try dsimp only [TurnEnd]
        rename Fr _ _ _ _ => F5; rename News _ _ _ _ => N5
        refine turnNext (vs.set j _, ns.set j (ns.getD j 0 - 1)) F5 N5 (by walk_at "MINE sep") (by kst_all) ⟨by assumption, by dsimp only; rw [List.length_set]; exact hnl, fun j' hj' => ?_⟩
        dsimp only at hj' ⊢
        rw [List.length_set] at hj'
        exact count_step idx_nodup hij (by omega) rfl hcnt j' hj'
      case done =>
        rintro ⟨vs, ns⟩ u h₄ tk₄ hJ9 F₄ N₄
        refine hideG fun G0 hG0 => ?_
        obtain ⟨hvs, hnl, hcnt⟩ := hJ9
        refine hG0 ?_
        clear hG0
        clear F3 hN3
        dsimp only [kstB, own6] at F₄ N₄ hvs hnl hcnt
        have hnK : ns = K.map fun k => (heldOf T0 k.c : Int) := map_of_getD (F := fun c => (heldOf T0 c : Int)) hnl fun j hj => by
          rw [hcnt j (by omega), List.take_length]
          have hk := List.getElem?_eq_getElem hj
          rw [cAt_of hk, held_add (proper_nodup (hK _ (List.getElem_mem hj)).2.2) hl0]
          simp only [mem_idx_at hk]
          split <;> omega
        clear hcnt
        replace N₄ : News g L' h₄ (own6 w τ x dx aC aP aH aO aB aT aR aX em te vs vo vr.dropLast eH eO (eR + 1) oT') := fun p hp => N₄ p (.tail _ hp)
        dsimp only [own6] at N₄
        try k_fold
        try dsimp only
        walk_at "MINE go"
        walk_at "MINE for"
        walk_at "MINE go"
        rename_i D1 h5 F5 N5 l2
        try clear N₄
        have hN5 : News g L' h5 ((D1, tup []) :: own6 w τ x dx aC aP aH aO aB aT aR aX em te vs vo vr.dropLast eH eO (eR + 1) oT') := N5
        clear N5
        refine loop_places (σ := List Value × List Int) (K := K) (l := -l) (D0 := D1) (fun c => (D1, tup []) :: own6 w τ x dx aC aP aH aO aB aT aR aX em te vs c.1 vr.dropLast eH eO (eR + 1) oT')
          (fun _ => [(Str.ofString "literal", .int l tq), (Str.ofString "self", .ref x)])
          (fun i c => IntsAre c.1 c.2 ∧ c.2.length = K.length ∧ ∀ j < c.2.length, c.2.getD j 0 = (openOf (T0 ++ [l]) (cAt K j) : Int) + (if (j : Int) ∈ (idx K (-l)).take i then 1 else 0)) (vo, os) hAh hI (hpl (-l)) (fun _ _ _ => .head _) F5 hN5 (by kst_all)
          ⟨hvo, hol, fun j hj => by dsimp only at hj ⊢; rw [hOs, getD_of_map (F := fun c => (openOf (T0 ++ [l]) c : Int)) (by omega)]; simp⟩ ?turn2 ?done2
        case turn2 =>
          rintro i j k t ⟨vs₂, ns₂⟩ u h₄ tk₄ II oI hij hjk hlk hJ9 hoff F₄ N₄
          clear hsl hol
          refine hideQ fun Qt hQt => ?_
          refine hideG fun G0 hG0 => ?_
          obtain ⟨hvs₂, hnl₂, hcnt⟩ := hJ9
          refine hG0 ?_
          clear hG0
          clear F5 hN5
          dsimp only [kstB, own6] at F₄ N₄ hvs₂ hnl₂ hcnt hoff
          have hoff' := allNe_of hoff
          dsimp only [List.cons_append, List.nil_append, AllNe] at hoff'
          have hjK : j < K.length := (List.getElem?_eq_some_iff.mp hjk).1
          try k_fold
          walk_at "MINE go"
          try dsimp only [TurnEnd]
          rename Fr _ _ _ _ => F5; rename News _ _ _ _ => N5
          refine turnNext (vs₂.set j _, ns₂.set j (ns₂.getD j 0 + 1)) F5 N5 (by walk_at "MINE sep") (by kst_all) ⟨by assumption, by dsimp only; rw [List.length_set]; exact hnl₂, fun j' hj' => ?_⟩
          dsimp only at hj' ⊢
          rw [List.length_set] at hj'
          exact count_step idx_nodup hij (by omega) rfl hcnt j' hj'
        case done2 =>
          rintro ⟨vs₂, ns₂⟩ u h₄ tk₄ hJ9 F₄ N₄
          refine hideG fun G0 hG0 => ?_
          obtain ⟨hvs₂, hnl₂, hcnt⟩ := hJ9
          refine hG0 ?_
          clear hG0
          clear F5 hN5
          dsimp only [kstB, own6] at F₄ N₄ hvs₂ hnl₂ hcnt
          have hnK₂ : ns₂ = K.map fun k => (openOf T0 k.c : Int) := map_of_getD (F := fun c => (openOf T0 c : Int)) hnl₂ fun j hj => by
            rw [hcnt j (by omega), List.take_length]
            have hk := List.getElem?_eq_getElem hj
            rw [cAt_of hk, open_add (T := T0) (proper_nodup (hK _ (List.getElem_mem hj)).2.2) hl0]
            simp only [mem_idx_at hk]
            split <;> omega
          clear hcnt
          try k_fold
          try dsimp only
          walk_at "MINE go"
          try dsimp only
          repeat (first | k_unfold | (dsimp only [WTurnEnd]))
          rename Fr _ _ _ _ => F6; rename News _ _ _ _ => N6
          refine wturnNext ⟨T0, ns, ns₂, vs, vs₂, vr.dropLast, eR + 1, oT'⟩ F6 (fun p hp => N6 p (.tail _ hp)) (by kst_all) ⟨hTk, ⟨hvs, hvs₂, hvr5⟩, ⟨hnK, hnK₂⟩, hnd0, ?_⟩ ?_
          · dsimp only; rw [List.length_append, List.length_singleton] at hTl; omega
          · dsimp only; rw [List.length_append, List.length_singleton]; omega
-- Forced
theorem top_Forced : True := by
  w_top off
  trivial
theorem rises_of {ns T : List Int} (hp : ns.Perm T) (hn : T.Nodup) (hc : Cons T) (h : ns.Pairwise (fun x y => (if x < 0 then -x else x) ≤ if y < 0 then -y else y)) : Rises ns := by
  have hn' := List.nodup_iff_pairwise_ne.mp (hp.nodup_iff.mpr hn)
  unfold Rises
  refine (h.and hn').imp_of_mem ?_
  rintro a b ha hb ⟨h1, h2⟩
  have h3 : a.natAbs ≠ b.natAbs := fun e => h2 (natAbs_inj hc (hp.mem_iff.mp ha) (hp.mem_iff.mp hb) e)
  split at h1 <;> split at h1 <;> omega
inductive ForR (w : World) (τ : Nat → Tok) (x dx aC aP aH aO aB aT aR : Addr) (em : Int) (te : Tok) (K : List Kl) (lits : List Int) (v : Value) (own : List (Addr × Obj)) : Prop
  | mk (aX' : Addr) (vh' vo' : List Value) (eH' eO' eR' : Nat) (oT' : Obj) (hs' os' : List Int) (own' : List (Addr × Obj)) (hown : own = own6 w τ x dx aC aP aH aO aB aT aR aX' em te vh' vo' [] eH' eO' eR' oT' ++ own')
      (hT : TakenAt w oT' []) (hi : IntsAre vh' hs' ∧ IntsAre vo' os') (hHO : HO K [] hs' os') (P : FPost (Kl.cls K) lits v own') : ForR w τ x dx aC aP aH aO aB aT aR em te K lits v own
theorem forced_c {w : World} {τ : Nat → Tok} {x dx aC aP aH aO aB aT aR aX lp : Addr} {em : Int} {te : Tok} {eH eO eR eB eL : Nat} {vh vo vl : List Value} {oT : Obj} {I : List (Addr × Obj)} {K : List Kl} {hs os lits : List Int} {Bs : List Qi}
    (ho : Ord6 x dx aH aO aT aR) (hF : Fix w I K aC aP) (hK : KOk 5 K) (hKl : K.length ≤ 11) (hT : TakenAt w oT []) (htm : (aT == sysModules) = false) (hv : IntsAre vh hs ∧ IntsAre vo os) (hHO : HO K [] hs os)
    (hB : Beg K em Bs) (hBl : (aB, listOf (Bs.map Qi.rf).toArray eB) ∈ I) (hBt : ∀ p ∈ Bs.map Qi.ob, p ∈ I) (hL : (lp, listOf vl.toArray eL) ∈ I) (hvl : IntsAre vl lits) (hlo : LitOk lits) (hll : lits.length ≤ 12) :
    Does w 137 [.ref x, .ref lp] (own6 w τ x dx aC aP aH aO aB aT aR aX em te vh vo [] eH eO eR oT) I 14
      (ForR w τ x dx aC aP aH aO aB aT aR em te K lits) := by
  intro mean mg mb dp un gd cn cs a ccd cl outer A₀ base h₀ L m rest s Q E G hk' F N hsep himm hd hu hret
  walk_at "MINE in"
  intro g L' h₁ tk₁ FG F' N' G' st lt
  refine hideF (by passes_own) rfl fun AA Qf Ef hAA hAh hEf hQf => ?_
  have hI : ∀ p ∈ I, g.get? p.1 = some p.2 := fun p hp => st _ _ (himm p hp).1 (himm p hp).2
  clear F N G st himm hsep
  have ⟨B', X', T'⟩ := G'
  try dsimp only [own6] at lt
  try simp only [List.cons_append, List.nil_append] at lt
  k_lt lt
  try dsimp only
  try k_fold
  walk_at "MINE go"
  refine Does.useA hAA [] (run_c ho hF hK hKl hT htm ⟨hv.1, hv.2, .nil⟩ hHO hB hBl hBt hL hvl hlo hll) G' rfl F' N' (fun p hp => by simpa using hp) (fun _ _ _ h => nomatch h) (fun p hp => .inl (hI p hp)) (by walk_at "MINE room") (by walk_at "MINE room") ?_
  rintro v9 own9 h₂ tk₂ hJ9 F₂ N₂ S₂
  refine hideG fun G0 hG0 => ?_
  obtain ⟨b, aX₂, vh₂, vo₂, vr₂, eH₂, eO₂, eR₂, oT₂, T, hs₂, os₂, rfl, rfl, hTk₂, ⟨hvh₂, hvo₂, hvr₂⟩, hHO₂, P⟩ := hJ9
  refine hG0 ?_
  clear hG0
  clear F' N' S₂
  simp only [List.append_nil] at N₂
  dsimp only [own6] at N₂
  have hT4 := cons_len P.nd P.cons P.ok
  have hrl := hvr₂.length
  try dsimp only
  try k_fold
  walk_at "MINE go"
  (rename Fr _ _ _ _ => F5); (rename News _ _ _ _ => N5)
  rename_i D v₅ ns₅ c₅ h₅ tk₅ hi₅ he₅ hp₅ l₅ ho₅ hb₅ h₆
  clear hb₅
  try dsimp only
  refine Does.useA hAA [(D, listOf v₅.toArray c₅)] (undo_c ho hF hK hKl hTk₂ htm ⟨hvh₂, hvo₂, hvr₂⟩ hHO₂ P.nd hT4) G' rfl F5 N5 (by kst_inAny) (by walk_at "MINE sep") (fun p hp => .inl (hI p hp)) (by walk_at "MINE room") (by walk_at "MINE room") ?_
  rintro v9 own9 h₇ tk₇ hJ9 F₇ N₇ S₇
  refine hideG fun G0 hG0 => ?_
  obtain ⟨vh₃, vo₃, eR₃, oT₃, hs₃, os₃, rfl, rfl, hTk₃, hv₃, hHO₃⟩ := hJ9
  refine hG0 ?_
  clear hG0
  clear F5 N5
  try dsimp only
  cases b with
  | false =>
    try k_fold
    walk_at "MINE go"
    try dsimp only
    walk_at "MINE out"
    refine leaveF (by assumption) (news' := own6 w τ x dx aC aP aH aO aB aT aR aX₂ em te vh₃ vo₃ [] eH₂ eO₂ eR₃ oT₃) (fun p hp => N₇ p (List.mem_append_left _ hp)) ?_
    intro F9 N9 S9
    exact hret _ _ _ _ ⟨aX₂, vh₃, vo₃, eH₂, eO₂, eR₃, oT₃, hs₃, os₃, [], by rw [List.append_nil], hTk₃, hv₃, hHO₃, none, P.no rfl, rfl, rfl⟩ F9 N9 S9
  | true =>
    try k_fold
    walk_at "MINE go"
    try dsimp only
    walk_at "MINE out"
    refine leaveF (by assumption) (news' := own6 w τ x dx aC aP aH aO aB aT aR aX₂ em te vh₃ vo₃ [] eH₂ eO₂ eR₃ oT₃ ++ [(D, listOf v₅.toArray c₅)]) N₇ ?_
    intro F9 N9 S9
    obtain ⟨hy1, hy2⟩ := P.yes rfl
    exact hret _ _ _ _ ⟨aX₂, vh₃, vo₃, eH₂, eO₂, eR₃, oT₃, hs₃, os₃, [(D, listOf v₅.toArray c₅)], rfl, hTk₃, hv₃, hHO₃, some ns₅, ⟨hy1, fun l => (hp₅.mem_iff).trans (hy2 l), rises_of hp₅ P.nd P.cons ho₅⟩, D, v₅, c₅, rfl, rfl, hi₅⟩ F9 N9 S9
-- US
theorem top_US : True := by
  w_top off
  trivial
/-- a literal's list of places -/
structure Pl where
  a : Addr
  l : Int
  vs : List Value
  e : Nat
def Pl.ob (p : Pl) : Addr × Obj := (p.a, listOf p.vs.toArray p.e)
def Pl.kv (p : Pl) : Int × Value := (p.l, .ref p.a)
/-- the dict of places says f -/
def PMap (w : World) (oP : Obj) (PL : List Pl) (f : Int → List Int) : Prop := oP.IsDictOf (intKind Prog w) (PL.map Pl.kv) ∧ (∀ p ∈ PL, IntsAre p.vs (f p.l)) ∧ (∀ l, l ∉ PL.map Pl.l → f l = []) ∧ (PL.map Pl.l).Nodup

theorem pl_all {P : Addr → Prop} {PL : List Pl} : (∀ q ∈ PL.map Pl.ob, P q.1) ↔ ∀ a ∈ PL.map Pl.a, P a := by
  constructor
  · intro h a ha
    obtain ⟨p, hp, rfl⟩ := List.mem_map.mp ha
    exact h p.ob (List.mem_map_of_mem hp)
  · intro h q hq
    obtain ⟨p, hp, rfl⟩ := List.mem_map.mp hq
    exact h p.a (List.mem_map_of_mem hp)
theorem of_allLt {d : Addr} : ∀ {l : List (Addr × Obj)}, AllLt d l → ∀ p ∈ l, @LT.lt Nat _ p.1 d
  | [], _, _, hp => (nomatch hp)
  | q :: r, h, p, hp => by
    rcases List.mem_cons.mp hp with rfl | hp
    · exact h.1
    · exact of_allLt h.2 p hp
/-- the list of one literal grows by n -/
theorem PMap.hit {w : World} {oP : Obj} {A B : List Pl} {p : Pl} {f g : Int → List Int} {n : Int} {t : Tok} (h : PMap w oP (A ++ p :: B) f) (hg : ∀ l, g l = if l = p.l then f l ++ [n] else f l) : PMap w oP (A ++ ⟨p.a, p.l, p.vs ++ [.int n t], p.e + 1⟩ :: B) g := by
  obtain ⟨h1, h2, h3, h4⟩ := h
  have ek : (A ++ (⟨p.a, p.l, p.vs ++ [.int n t], p.e + 1⟩ : Pl) :: B).map Pl.kv = (A ++ p :: B).map Pl.kv := by simp [Pl.kv]
  have el : (A ++ (⟨p.a, p.l, p.vs ++ [.int n t], p.e + 1⟩ : Pl) :: B).map Pl.l = (A ++ p :: B).map Pl.l := by simp
  refine ⟨by rw [ek]; exact h1, fun z hz => ?_, fun l hl => ?_, by rw [el]; exact h4⟩
  · rw [List.map_append, List.map_cons, List.nodup_append, List.nodup_cons] at h4
    obtain ⟨_, ⟨n1, _⟩, n2⟩ := h4
    rcases List.mem_append.mp hz with hz | hz
    · rw [hg, if_neg (n2 _ (List.mem_map_of_mem hz) _ (.head _))]
      exact h2 z (List.mem_append_left _ hz)
    · rcases List.mem_cons.mp hz with rfl | hz
      · rw [hg, if_pos rfl]
        exact (h2 p (List.mem_append_right _ (.head _))).append (.cons _ _ .nil)
      · rw [hg, if_neg (fun e => n1 (by rw [← e]; exact List.mem_map_of_mem (f := Pl.l) hz))]
        exact h2 z (List.mem_append_right _ (.tail _ hz))
  · rw [el] at hl
    rw [hg, if_neg (fun e => hl (by rw [e]; simp))]
    exact h3 l hl
theorem PMap.miss {w : World} {oP o' : Obj} {PL : List Pl} {f g : Int → List Int} {n y : Int} {t : Tok} {D : Addr} (h : PMap w oP PL f) (hv : valueAt (PL.map Pl.kv) y = none) (hd : o'.IsDictOf (intKind Prog w) (stored (PL.map Pl.kv) y (.ref D))) (hg : ∀ l, g l = if l = y then f l ++ [n] else f l) :
    PMap w o' (PL ++ [⟨D, y, [.int n t], 1⟩]) g := by
  obtain ⟨h1, h2, h3, h4⟩ := h
  have hy : y ∉ PL.map Pl.l := fun hm => by
    obtain ⟨p, hp, e⟩ := List.mem_map.mp hm
    have h5 := valueAt_isSome_eq_any (PL.map Pl.kv) y
    rw [hv] at h5
    have h6 := List.any_eq_false.mp h5.symm p.kv (List.mem_map_of_mem hp)
    exact h6 (decide_eq_true e)
  refine ⟨?_, fun z hz => ?_, fun l hl => ?_, ?_⟩
  · rw [stored_absent hv] at hd
    rw [List.map_append]
    exact hd
  · rcases List.mem_append.mp hz with hz | hz
    · rw [hg, if_neg (fun e => hy (by rw [← e]; exact List.mem_map_of_mem (f := Pl.l) hz))]
      exact h2 z hz
    · rw [List.mem_singleton.mp hz, hg, if_pos rfl]
      dsimp only
      rw [h3 y hy]
      exact .cons _ _ .nil
  · rw [List.map_append, List.mem_append, not_or] at hl
    rw [hg, if_neg (fun e => hl.2 (by rw [e]; simp))]
    exact h3 l hl.1
  · rw [List.map_append]
    exact nodup_snoc h4 hy
set_option genInjectivity false in
set_option genSizeOf false in
/-- an UnitSteps object of UnitSteps between two calls -/
structure US where
  τ : Nat → Tok
  x : Addr
  dx : Addr
  aC : Addr
  aP : Addr
  aH : Addr
  aO : Addr
  aB : Addr
  aT : Addr
  aR : Addr
  aX : Addr
  em : Int
  te : Tok
  vh : List Value
  vo : List Value
  eC : Nat
  eH : Nat
  eO : Nat
  eB : Nat
  eR : Nat
  oP : Obj
  oT : Obj
  PL : List Pl
  Bs : List Qi
def US.own (w : World) (u : US) : List (Addr × Obj) := own6 w u.τ u.x u.dx u.aC u.aP u.aH u.aO u.aB u.aT u.aR u.aX u.em u.te u.vh u.vo [] u.eH u.eO u.eR u.oT
def US.more (u : US) (K : List Kl) : List (Addr × Obj) := (u.aC, listOf (K.map Kl.rf).toArray u.eC) :: (u.aP, u.oP) :: (u.aB, listOf (u.Bs.map Qi.rf).toArray u.eB) :: (u.PL.map Pl.ob ++ u.Bs.map Qi.ob)
structure US.Ok (w : World) (u : US) (K : List Kl) : Prop where
  o1 : @LT.lt Nat _ u.dx u.x
  o2 : @LT.lt Nat _ u.x u.aC
  o3 : @LT.lt Nat _ u.aC u.aP
  o4 : @LT.lt Nat _ u.aP u.aH
  o5 : @LT.lt Nat _ u.aH u.aO
  o6 : @LT.lt Nat _ u.aO u.aB
  o7 : @LT.lt Nat _ u.aB u.aT
  o8 : @LT.lt Nat _ u.aT u.aR
  gt : ∀ p ∈ u.PL.map Pl.ob ++ u.Bs.map Qi.ob, @LT.lt Nat _ u.aR p.1
  nd : (u.PL.map Pl.a).Nodup
  mT : (u.aT == sysModules) = false
  mP : (u.aP == sysModules) = false
  tk : TakenAt w u.oT []
  ho : ∃ hs os, IntsAre u.vh hs ∧ IntsAre u.vo os ∧ HO K [] hs os
  pm : PMap w u.oP u.PL (idx K)
  bg : Beg K u.em u.Bs
  few : u.PL.length ≤ 5 * K.length
theorem Beg.empty {K : List Kl} {em : Int} {Bs : List Qi} {k : Kl} (h : Beg K em Bs) (hk : k.c = []) : Beg (K ++ [k]) (K.length : Int) Bs := by
  refine ⟨.inl ⟨by omega, k, by simp, hk⟩, fun y hy => ?_, fun q hq y hy => ?_, by have := h.few; rw [List.length_append]; omega⟩
  · obtain ⟨q, hq, e⟩ := h.sound y hy
    exact ⟨q, List.mem_append_left _ hq, e⟩
  · rcases List.mem_append.mp hq with hq | hq
    · exact h.full q hq y hy
    · rw [List.mem_singleton.mp hq, hk] at hy; cases hy
theorem Beg.em_keep {K : List Kl} {em : Int} {Bs : List Qi} {k : Kl} (h : Beg K em Bs) (hk : k.c ≠ []) : (0 ≤ em ∧ ∃ q ∈ K ++ [k], q.c = []) ∨ (em < 0 ∧ ∀ q ∈ K ++ [k], q.c ≠ []) := by
  rcases h.em with ⟨h1, q, hq, h2⟩ | ⟨h1, h2⟩
  · exact .inl ⟨h1, q, List.mem_append_left _ hq, h2⟩
  · exact .inr ⟨h1, List.forall_mem_append.mpr ⟨h2, List.forall_mem_singleton.mpr hk⟩⟩
theorem Beg.unit {K : List Kl} {em : Int} {Bs : List Qi} {k : Kl} {b : Qi} (h : Beg K em Bs) (hk : k.c = [b.l]) : Beg (K ++ [k]) em (Bs ++ [b]) := by
  refine ⟨h.em_keep (by rw [hk]; simp), fun y hy => ?_, fun q hq y hy => ?_, by have := h.few; simp only [List.length_append, List.length_singleton]; omega⟩
  · rw [List.map_append] at hy
    rcases List.mem_append.mp hy with hy | hy
    · obtain ⟨q, hq, e⟩ := h.sound y hy
      exact ⟨q, List.mem_append_left _ hq, e⟩
    · rw [List.map_singleton, List.mem_singleton] at hy
      exact ⟨k, by simp, by rw [hk, hy]⟩
  · rw [List.map_append, List.mem_append]
    rcases List.mem_append.mp hq with hq | hq
    · exact .inl (h.full q hq y hy)
    · rw [List.mem_singleton.mp hq, hk] at hy
      cases hy
      exact .inr (by simp)
theorem Beg.other {K : List Kl} {em : Int} {Bs : List Qi} {k : Kl} (h : Beg K em Bs) (h0 : k.c ≠ []) (h1 : k.c.length ≠ 1) : Beg (K ++ [k]) em Bs := by
  refine ⟨h.em_keep h0, fun y hy => ?_, fun q hq y hy => ?_, by have := h.few; rw [List.length_append]; omega⟩
  · obtain ⟨q, hq, e⟩ := h.sound y hy
    exact ⟨q, List.mem_append_left _ hq, e⟩
  · rcases List.mem_append.mp hq with hq | hq
    · exact h.full q hq y hy
    · rw [List.mem_singleton.mp hq] at hy
      rw [hy] at h1; exact absurd rfl h1
theorem ho_snoc {K : List Kl} {hs os : List Int} {k : Kl} (h : HO K [] hs os) : HO (K ++ [k]) [] (hs ++ [0]) (os ++ [(k.c.length : Int)]) := by
  obtain ⟨h1, h2⟩ := h
  have e1 : heldOf [] k.c = 0 := by unfold heldOf; simp
  have e2 : openOf [] k.c = k.c.length := by unfold openOf; simp
  exact ⟨by rw [h1, List.map_append, List.map_singleton, e1]; rfl, by rw [h2, List.map_append, List.map_singleton, e2]⟩
theorem valueAt_pl {PL : List Pl} {l : Int} : (valueAt (PL.map Pl.kv) l = none ∧ l ∉ PL.map Pl.l) ∨ ∃ p ∈ PL, p.l = l ∧ valueAt (PL.map Pl.kv) l = some (.ref p.a) := by
  induction PL with
  | nil => exact .inl ⟨rfl, fun h => nomatch h⟩
  | cons p r ih =>
    have hc : valueAt ((p :: r).map Pl.kv) l = if p.l = l then some (.ref p.a) else valueAt (r.map Pl.kv) l := by
      unfold valueAt
      rw [List.map_cons, List.find?_cons]
      by_cases e : p.l = l
      · simp [Pl.kv, e]
      · simp [Pl.kv, e]
    rw [hc]
    by_cases e : p.l = l
    · rw [if_pos e]
      exact .inr ⟨p, .head _, e, rfl⟩
    · rw [if_neg e]
      rcases ih with ⟨h1, h2⟩ | ⟨q, hq, h1, h2⟩
      · refine .inl ⟨h1, ?_⟩
        rw [List.map_cons, List.mem_cons, not_or]
        exact ⟨fun q => e q.symm, h2⟩
      · exact .inr ⟨q, .tail _ hq, h1, h2⟩
theorem US.Ok.fix {w : World} {u : US} {K : List Kl} (h : u.Ok w K) : Fix w (u.more K ++ K.map Kl.ob) K u.aC u.aP := by
  refine ⟨⟨u.eC, .head _⟩, fun k hk => List.mem_append_right _ (List.mem_map_of_mem hk), ⟨u.oP, _, .tail _ (.head _), h.mP, h.pm.1, fun l => ?_⟩⟩
  rcases valueAt_pl (PL := u.PL) (l := l) with ⟨h1, h2⟩ | ⟨p, hp, rfl, h1⟩
  · exact .inl ⟨h1, h.pm.2.2.1 l h2⟩
  · exact .inr ⟨p.a, p.vs, p.e, h1, List.mem_append_left _ (.tail _ (.tail _ (.tail _ (List.mem_append_left _ (List.mem_map_of_mem (f := Pl.ob) hp))))), h.pm.2.1 p hp⟩
theorem US.Ok.ord {w : World} {u : US} {K : List Kl} (h : u.Ok w K) : Ord6 u.x u.dx u.aH u.aO u.aT u.aR :=
  ⟨h.o1, Nat.lt_trans h.o2 (Nat.lt_trans h.o3 h.o4), h.o5, Nat.lt_trans h.o6 h.o7, h.o8⟩
theorem Does.weak {w : World} {f : Addr} {args : List Value} {own imm imm' : List (Addr × Obj)} {n n' : Nat} {Post Post' : Value → List (Addr × Obj) → Prop} (D : Does w f args own imm n Post) (hi : ∀ p ∈ imm, p ∈ imm') (hn : n ≤ n') (hp : ∀ v o, Post v o → Post' v o) : Does w f args own imm' n' Post' := by
  intro mean mg mb dp un gd cn cs a ccd cl outer A₀ base h₀ L m rest s Q E G hk F N hsep himm hd hu hret
  exact D mean mg mb dp un gd cn cs a ccd cl outer A₀ base h₀ L m rest s Q E G hk F N hsep (fun p hp => himm p (hi p hp)) (by omega) (by omega) fun r own' h' tk h => hret r own' h' tk (hp _ _ h)
theorem forced_u {w : World} {u : US} {K : List Kl} {lp : Addr} {eL : Nat} {vl : List Value} {lits : List Int} (h : u.Ok w K) (hK : KOk 5 K) (hKl : K.length ≤ 11) (hvl : IntsAre vl lits) (hlo : LitOk lits) (hll : lits.length ≤ 12) :
    Does w 137 [.ref u.x, .ref lp] (u.own w) (u.more K ++ K.map Kl.ob ++ [(lp, listOf vl.toArray eL)]) 14
      (fun v own => ∃ u' own', own = US.own w u' ++ own' ∧ u'.x = u.x ∧ u'.more = u.more ∧ u'.Ok w K ∧ FPost (Kl.cls K) lits v own') := by
  obtain ⟨hs, os, h1, h2, h3⟩ := h.ho
  have fx := h.fix
  have fx' : Fix w (u.more K ++ K.map Kl.ob ++ [(lp, listOf vl.toArray eL)]) K u.aC u.aP := by
    obtain ⟨⟨e, f1⟩, f2, ⟨o, kvs, f3, f4, f5, f6⟩⟩ := fx
    refine ⟨⟨e, List.mem_append_left _ f1⟩, fun k hk => List.mem_append_left _ (f2 k hk), ⟨o, kvs, List.mem_append_left _ f3, f4, f5, fun l => (f6 l).imp id ?_⟩⟩
    rintro ⟨a, vs, e, g1, g2, g3⟩
    exact ⟨a, vs, e, g1, List.mem_append_left _ g2, g3⟩
  refine Does.weak (forced_c (eB := u.eB) h.ord fx' hK hKl h.tk h.mT ⟨h1, h2⟩ h3 h.bg (List.mem_append_left _ (List.mem_append_left _ (.tail _ (.tail _ (.head _))))) (fun p hp => List.mem_append_left _ (List.mem_append_left _ (.tail _ (.tail _ (.tail _ (List.mem_append_right _ hp)))))) (List.mem_append_right _ (.head _)) hvl hlo hll) (fun p hp => hp) (Nat.le_refl _) ?_
  rintro v _ ⟨aX', vh', vo', eH', eO', eR', oT', hs', os', own', rfl, k1, k2, k3, k4⟩
  exact ⟨{ u with aX := aX', vh := vh', vo := vo', eH := eH', eO := eO', eR := eR', oT := oT' }, own', rfl, rfl, rfl, ⟨h.o1, h.o2, h.o3, h.o4, h.o5, h.o6, h.o7, h.o8, h.gt, h.nd, h.mT, h.mP, k1, ⟨hs', os', k2.1, k2.2, k3⟩, h.pm, h.bg, h.few⟩, k4⟩
-- Follows
theorem top_Follows : True := by
  w_top off
  trivial
theorem neg_ok {c : List Int} {n : Nat} (h : Small n c) (hp : Proper c) : LitOk (neg c) := fun x hx => by
  obtain ⟨y, hy, rfl⟩ := List.mem_map.mp hx
  have h1 := hp.2 y hy
  have h2 := h.2 y hy
  omega
theorem follows_u {w : World} {u : US} {K : List Kl} {t : Addr} {us : List Value} {c : List Int} (h : u.Ok w K) (hK : KOk 5 K) (hKl : K.length ≤ 11) (hus : IntsAre us c) (hsm : Small 5 c) (hp : Proper c) :
    Does w 142 [.ref u.x, .ref t] (u.own w) ((t, tup us) :: (u.more K ++ K.map Kl.ob)) 16
      (fun v own => ∃ u' b, own = US.own w u' ∧ u'.x = u.x ∧ u'.more = u.more ∧ u'.Ok w K ∧ v = .bool b ∧ ((b = true ∧ IsUP (Kl.cls K) (neg c) none) ∨ (b = false ∧ ∃ xs, IsUP (Kl.cls K) (neg c) (some xs)))) := by
  intro mean mg mb dp un gd cn cs a ccd cl outer A₀ base h₀ L m rest s Q E G hk' F N hsep himm hd hu hret
  walk_at "MINE in"
  intro g L' h₁ tk₁ FG F' N' G' st lt
  refine hideF (by passes_own) rfl fun AA Qf Ef hAA hAh hEf hQf => ?_
  have hI : ∀ p ∈ (t, tup us) :: (u.more K ++ K.map Kl.ob), g.get? p.1 = some p.2 := fun p hp => st _ _ (himm p hp).1 (himm p hp).2
  have hgt := hI _ (.head _)
  have hul := hus.length
  have hsl := hsm.1
  clear F N G st himm hsep
  have ⟨B', X', T'⟩ := G'
  try dsimp only [own6] at lt
  try simp only [List.cons_append, List.nil_append] at lt
  try dsimp only
  try k_fold
  walk_at "MINE go"
  refine halt_mk ?_
  refine comp_tuple (σ := Unit) (fun _ => u.own w) (fun j ys _ => IntsAre ys (neg (c.take j))) () hAh (.inl ⟨_, hgt, rfl, 0, rfl⟩) (by rw [sizeLine_eq]; omega) (by decide) rfl F' N' .nil (fun _ _ => rfl) ?cturn (rr_eval ?cdone)
  case cturn =>
    rintro j v ys ⟨⟩ u₃ h₆ tk₆ C I₂ D₂ nD oL oI₂ E₂ hv₂ hlen₂ hys hoffC hbC F₈ N₈ hL
    clear F' N'
    refine hideG fun G0 hG0 => ?_
    obtain ⟨y, ty, rfl, hy⟩ := hus.at j v hv₂
    refine hG0 ?_
    clear hG0
    have htj : c.take (j + 1) = c.take j ++ [y] := by rw [List.take_add_one, hy]; rfl
    refine turn_name (by decide) rfl F₈ N₈ fun h₇ tk₇ F₉ N₉ => wpAny_tests_nil ?_
    clear F₈ N₈
    simp only [if_true]
    try k_fold
    walk_at "MINE go"
    (rename Fr _ _ _ _ => F10); (rename News _ _ _ _ => N10)
    refine eltEnd (led := fun _ : Unit => _) () F10 N10 hoffC ?_
    rw [htj, neg, List.map_append]
    exact hys.append (.cons _ _ .nil)
  case cdone =>
    intro D₂ c' h₆ tk₆ ys nD hys F₈ N₈ hD₂
    clear F' N'
    rw [hul, List.take_length] at hys
    have hnl : (neg c).length ≤ 12 := by rw [neg, List.length_map]; omega
    try k_fold
    try dsimp only
    walk_at "MINE go"
    refine Does.useA hAA [(D₂, listOf ys.toArray nD)] (forced_u (lp := D₂) (eL := nD) h hK hKl hys (neg_ok hsm hp) hnl) G' rfl F₈ N₈ (fun p hp => ?_) (fun p hp q hq => ?_) (fun p hp => ?_) (by walk_at "MINE room") (by walk_at "MINE room") ?_
    · rcases List.mem_append.mp hp with hp | hp
      · exact .tail _ hp
      · rw [List.mem_singleton.mp hp]; exact .head _
    · rw [List.mem_singleton.mp hq]; exact hD₂ p hp
    · rcases List.mem_append.mp hp with hp | hp
      · exact .inl (hI p (.tail _ hp))
      · exact .inr hp
    rintro v own9 h₇ tk₇ hJ9 F₉ N₉ S₉
    refine hideG fun G0 hG0 => ?_
    obtain ⟨u', own', rfl, e1, e2, hok, r, hr, hv⟩ := hJ9
    refine hG0 ?_
    clear hG0
    clear F₈ N₈
    cases r with
    | none =>
      obtain ⟨rfl, rfl⟩ := hv
      try dsimp only
      try k_fold
      walk_at "MINE go"
      try dsimp only
      walk_at "MINE out"
      refine leaveF F₉ (news' := US.own w u') (fun p hp => N₉ p (by simp only [List.append_nil]; exact List.mem_append_left _ hp)) ?_
      intro F9 N9 S9
      exact hret _ _ _ _ ⟨u', true, rfl, e1, e2, hok, rfl, .inl ⟨rfl, hr⟩⟩ F9 N9 S9
    | some xs =>
      refine hideG fun G0 hG0 => ?_
      obtain ⟨D, us', e, rfl, rfl, _⟩ := hv
      refine hG0 ?_
      clear hG0
      try dsimp only
      try k_fold
      walk_at "MINE go"
      try dsimp only
      walk_at "MINE out"
      refine leaveF F₉ (news' := US.own w u') (fun p hp => N₉ p (List.mem_append_left _ (List.mem_append_left _ hp))) ?_
      intro F9 N9 S9
      exact hret _ _ _ _ ⟨u', false, rfl, e1, e2, hok, rfl, .inr ⟨rfl, xs, hr⟩⟩ F9 N9 S9
-- Add
theorem top_Add : True := by
  w_top off
  trivial
theorem getSD {w : World} {A : Around} {E : Value → Shared → Prop} {s : Shared} {d : Addr} {kvs : List (Int × Value)} {pl : Sem Bool} {Q : Value × List Value → Shared → Prop} (hD : s.heap.DictOf (intKind Prog w) d kvs) (h : Q (.builtin "dict.setdefault", [.ref d]) s) :
    wpAny (model Prog w) A (getMethod (.ref d) (Str.ofString "setdefault") pl) Q E s := getMethod_builtin hD.typeIs PySem.F.plainAttrs_dict PySem.F.slot_dict_setdefault PySem.F.type_dict_setdefault hD.mapOf.noDict h
local macro_rules | `(tactic| walk_at "getMethod ref") => `(tactic| (k_here; k_dflt (refine' getSD (dictOfNews (by k_asm) (by k_mem) (by with_reducible assumption)) ?_; k_whole)))
local macro_rules | `(tactic| k_all) => `(tactic| first | with_reducible assumption | fail "none")
theorem nodup_snocA {T : List Addr} {y : Addr} (h : T.Nodup) (hy : y ∉ T) : (T ++ [y]).Nodup := by
  rw [List.nodup_append]
  refine ⟨h, by simp, fun a ha b hb => ?_⟩
  rw [List.mem_singleton.mp hb]
  exact fun e => hy (e ▸ ha)
theorem sube {α : Type} {a : List α} : ∀ z ∈ a, z ∈ a := fun _ h => h
theorem subc {α : Type} {c : α} {a b : List α} (h : ∀ z ∈ a, z ∈ b) : ∀ z ∈ c :: a, z ∈ c :: b := fun z hz => (List.mem_cons.mp hz).elim (fun e => e ▸ .head _) fun q => .tail _ (h z q)
theorem subS {α : Type} {x c : α} {a b : List α} (h : ∀ z ∈ a, z ∈ x :: b) : ∀ z ∈ c :: a, z ∈ x :: c :: b := fun z hz => (List.mem_cons.mp hz).elim (fun e => e ▸ .tail _ (.head _)) fun q => (List.mem_cons.mp (h z q)).elim (fun e => e ▸ .head _) fun q => .tail _ (.tail _ q)
theorem subM {α β : Type} {f : α → β} {A B : List α} {q : α} {r : List β} : ∀ z ∈ (A ++ B).map f ++ r, z ∈ (A ++ q :: B).map f ++ r := fun z hz => by
  simp only [List.map_append, List.map_cons, List.mem_append, List.mem_cons] at hz ⊢
  rcases hz with (hz | hz) | hz <;> simp [hz]
theorem subQ {α β : Type} {f : α → β} {A B : List α} {q : α} {r : List β} : ∀ z ∈ (A ++ q :: B).map f ++ r, z ∈ f q :: ((A ++ B).map f ++ r) := fun z hz => by
  simp only [List.map_append, List.map_cons, List.mem_append, List.mem_cons] at hz ⊢
  rcases hz with (hz | hz | hz) | hz <;> simp [hz]
theorem subQ0 {α β : Type} {f : α → β} {A : List α} {q : α} {r : List β} : ∀ z ∈ (A ++ [q]).map f ++ r, z ∈ f q :: (A.map f ++ r) := fun z hz => by
  simp only [List.map_append, List.map_cons, List.map_nil, List.mem_append, List.mem_cons, List.not_mem_nil, or_false] at hz ⊢
  rcases hz with (hz | hz) | hz <;> simp [hz]
theorem subSL {α β : Type} {f : α → β} {A : List α} {q : α} {r : List β} : ∀ z ∈ r ++ (A ++ [q]).map f, z ∈ f q :: (r ++ A.map f) := fun z hz => by
  simp only [List.map_append, List.map_cons, List.map_nil, List.mem_append, List.mem_cons, List.not_mem_nil, or_false] at hz ⊢
  rcases hz with hz | hz | hz <;> simp [hz]
theorem add_u {w : World} {u : US} {K : List Kl} {t : Addr} {us : List Value} {c : List Int} (h : u.Ok w K) (hKl : K.length ≤ 10) (hus : IntsAre us c) (hsm : Small 5 c) (hp : Proper c) :
    Does w 106 [.ref u.x, .ref t] (u.own w ++ u.more K) [(t, tup us)] 2
      (fun v own => ∃ u', own = US.own w u' ++ u'.more (K ++ [⟨t, us, c⟩]) ∧ u'.x = u.x ∧ u'.Ok w (K ++ [⟨t, us, c⟩]) ∧ v = .none) := by
  intro mean mg mb dp un gd cn cs a ccd cl outer A₀ base h₀ L m rest s Q E G hk' F N hsep himm hd hu hret
  walk_at "MINE in"
  intro g L' h₁ tk₁ FG F' N' G' st lt
  refine hideF (by passes_own) rfl fun AA Qf Ef hAA hAh hEf hQf => ?_
  have hgt : g.get? t = some (tup us) := st _ _ (himm _ (.head _)).1 (himm _ (.head _)).2
  have hT : IsTup g t us.toArray := ⟨_, hgt, rfl, 0, rfl⟩
  have hul := hus.length
  have hsl := hsm.1
  clear F N G st himm hsep
  have ⟨B', X', T'⟩ := G'
  refine hideG fun G0 hG0 => ?_
  obtain ⟨τ, x, dx, aC, aP, aH, aO, aB, aT, aR, aX, em, te, vh, vo, eC, eH, eO, eB, eR, oP, oT, PL, Bs⟩ := u
  obtain ⟨o1, o2, o3, o4, o5, o6, o7, o8, hgtP, hnd, hmT, hmP, hTk, ⟨hs, os, hvh, hvo, hHO⟩, hpm, hbg, hfew⟩ := h
  refine hG0 ?_
  clear hG0
  dsimp only at o1 o2 o3 o4 o5 o6 o7 o8 hgtP hnd hmT hmP hTk hvh hvo hpm hbg hfew
  dsimp only [US.own, US.more, own6] at F' N' lt
  simp only [List.cons_append, List.nil_append] at N' lt
  replace lt := allLt_of lt
  dsimp only [AllLt] at lt
  have hzl : (List.map Kl.rf K).length = K.length := List.length_map _
  have hBf := hbg.few
  have hz2 : (List.map Qi.rf Bs).length = Bs.length := List.length_map _
  obtain ⟨hHs, hOs⟩ := id hHO
  have hvhl : vh.length = K.length := by rw [hvh.length, hHs, List.length_map]
  have hvol : vo.length = K.length := by rw [hvo.length, hOs, List.length_map]
  try dsimp only
  try k_fold
  walk_at "MINE go"
  walk_at "MINE for"
  walk_at "MINE go"
  (rename Fr _ _ _ _ => F3); (rename News _ _ _ _ => N3)
  simp only [hzl] at F3
  refine halt_mk ?_
  refine loop_tuple (σ := Obj × List Pl) (fun z => (x, instObj 145 dx) :: (dx, sDict w τ aC aP aH aO aB aT aR aX em te) :: (aH, listOf vh.toArray eH) :: (aO, listOf vo.toArray eO) :: (aT, oT) :: (aR, listOf (List.toArray []) eR) :: (aC, listOf (K.map Kl.rf).toArray eC) :: (aP, z.1) :: (aB, listOf (Bs.map Qi.rf).toArray eB) :: (z.2.map Pl.ob ++ Bs.map Qi.ob))
    (fun _ => [(Str.ofString "number", .int (K.length : Int) (tk₁ + 1 + 1)), (Str.ofString "clause", .ref t), (Str.ofString "self", .ref x)])
    (fun i z => PMap w z.1 z.2 (fun l => idx K l ++ if l ∈ c.take i then [(K.length : Int)] else []) ∧ (∀ p ∈ z.2.map Pl.ob ++ Bs.map Qi.ob, @LT.lt Nat _ aR p.1) ∧ (z.2.map Pl.a).Nodup ∧ z.2.length ≤ 5 * K.length + i) (oP, PL) hAh
    (.inl ⟨_, hgt, rfl, 0, rfl⟩) F3 N3 (by kst_all) ⟨by simpa using hpm, hgtP, hnd, hfew⟩ ?turn ?done
  case turn =>
    rintro i v ⟨oP₂, PL₂⟩ u₃ h₄ tk₄ II oI hvi hJ9 hoff F₄ N₄
    refine hideQ fun Qt hQt => ?_
    refine hideG fun G0 hG0 => ?_
    obtain ⟨hpm, hgtP, hnd, hfew⟩ := hJ9
    refine hG0 ?_
    clear hG0
    clear F3 N3
    refine hideG fun G0 hG0 => ?_
    obtain ⟨y, ty, rfl, hy⟩ := hus.at i v hvi
    refine hG0 ?_
    clear hG0
    dsimp only [kstB] at F₄ N₄ hpm hgtP hnd hfew hoff
    refine hideG fun G0 hG0 => ?_
    obtain ⟨hpd, hpv, hpo, _⟩ := id hpm
    refine hG0 ?_
    clear hG0
    have hi5 : i < us.length := (List.getElem?_eq_some_iff.mp hvi).1
    have hti : c.take (i + 1) = c.take i ++ [y] := by rw [List.take_add_one, hy]; rfl
    have hyn : y ∉ c.take i := by
      intro hm
      have h1 : (c.take (i + 1)).Nodup := (proper_nodup hp).sublist (List.take_sublist _ _)
      rw [hti, List.nodup_append] at h1
      exact h1.2.2 _ hm _ (by simp) rfl
    have hgf : ∀ l : Int, (idx K l ++ if l ∈ c.take (i + 1) then [(K.length : Int)] else []) = if l = y then (idx K l ++ if l ∈ c.take i then [(K.length : Int)] else []) ++ [(K.length : Int)] else (idx K l ++ if l ∈ c.take i then [(K.length : Int)] else []) := fun l => by
      rw [hti]
      by_cases e : l = y
      · subst e; simp [hyn]
      · simp [List.mem_append, e]
    have hoff' := hoff
    simp only [List.forall_mem_cons] at hoff'
    refine hideG fun G0 hG0 => ?_
    obtain ⟨f1, f2, f3, f4, f5, f6, f7, f8, f9, f10⟩ := hoff'
    refine hG0 ?_
    clear hG0
    replace f1 := neN f1; replace f2 := neN f2; replace f3 := neN f3; replace f4 := neN f4; replace f5 := neN f5; replace f6 := neN f6; replace f7 := neN f7; replace f8 := neN f8; replace f9 := neN f9
    try dsimp only at f1 f2 f3 f4 f5 f6 f7 f8 f9
    try k_fold
    walk_at "MINE go"
    (rename Fr _ _ _ _ => F5); (rename News _ _ _ _ => N5)
    rename_i D h6 l9
    refine dDefault F5 N5 (by k_updF) hpd (intKind_is _ _ _ _) hmP (PySem.F.args_dict_setdefault_3 _ _ _) (fun v hv => ?hit) (fun hv h' o' F' N' D' => ?miss) (by rw [sizeLine_eq, List.length_map]; omega)
    case hit =>
      rcases valueAt_pl (PL := PL₂) (l := y) with ⟨h1, _⟩ | ⟨p, hpp, rfl, h1⟩
      · rw [h1] at hv; cases hv
      rw [h1] at hv
      cases hv
      have hpi := hpv p hpp
      have hpg : @LT.lt Nat _ aR p.a := hgtP p.ob (List.mem_append_left _ (List.mem_map_of_mem hpp))
      have hpII : @Ne Nat p.a II := f10 p.ob (List.mem_append_left _ (List.mem_map_of_mem hpp))
      refine hideG fun G0 hG0 => ?_
      obtain ⟨PA, PB, rfl⟩ := List.append_of_mem hpp
      refine hG0 ?_
      clear hG0
      have hpl : p.vs.length ≤ 12 := by
        have h2 := hpi.length
        rw [List.length_append] at h2
        have h3 := idx_len (K := K) (l := p.l)
        split at h2 <;> simp at h2 <;> omega
      have hne : ∀ q ∈ (PA ++ PB).map Pl.ob ++ Bs.map Qi.ob, q.1 ≠ p.a := by
        refine List.forall_mem_append.mpr ⟨fun q hq => ?_, fun q hq => ?_⟩
        · obtain ⟨z, hz, rfl⟩ := List.mem_map.mp hq
          rw [List.map_append, List.map_cons, List.nodup_append] at hnd
          refine hideG fun G0 hG0 => ?_
          obtain ⟨_, n2, n3⟩ := hnd
          refine hG0 ?_
          clear hG0
          rw [List.nodup_cons] at n2
          rcases List.mem_append.mp hz with hz | hz
          · exact n3 _ (List.mem_map_of_mem hz) _ (.head _)
          · exact fun e => n2.1 (by rw [← e]; exact List.mem_map_of_mem (f := Pl.a) hz)
        · obtain ⟨z, hz, rfl⟩ := List.mem_map.mp hq
          exact ne_of_cls (o := z.ob.2) (o' := p.ob.2) N5 (by (iterate 11 (refine List.Mem.tail _ ?_)); exact List.mem_append_right _ (List.mem_map_of_mem (f := Qi.ob) hz))
            (by (iterate 11 (refine List.Mem.tail _ ?_)); exact List.mem_append_left _ (List.mem_map_of_mem (f := Pl.ob) hpp)) (by show Value.type "tuple" ≠ Value.type "list"; decide)
      have N6 : News g L' h6 ((p.a, listOf p.vs.toArray p.e) :: (II, oI) :: (x, instObj 145 dx) :: (dx, sDict w τ aC aP aH aO aB aT aR aX em te) :: (aH, listOf vh.toArray eH) :: (aO, listOf vo.toArray eO) :: (aT, oT) :: (aR, listOf (List.toArray []) eR) :: (aC, listOf (K.map Kl.rf).toArray eC) :: (aP, oP₂) :: (aB, listOf (Bs.map Qi.rf).toArray eB) :: ((PA ++ PB).map Pl.ob ++ Bs.map Qi.ob)) := by
        intro z hz
        rcases List.mem_cons.mp hz with rfl | hz9
        · exact N5 _ (by (iterate 11 (refine List.Mem.tail _ ?_)); exact List.mem_append_left _ (List.mem_map_of_mem (f := Pl.ob) hpp))
        · refine N5 z (List.mem_cons_of_mem _ ?_)
          clear hz
          revert z
          iterate 10 refine subc ?_
          exact subM
      clear N5
      try dsimp only
      walk_at "MINE go"
      try dsimp only [TurnEnd]
      (rename Fr _ _ _ _ => F7); (rename News _ _ _ _ => N7)
      try simp only [List.push_toArray] at N7
      have eA : (PA ++ (⟨p.a, p.l, p.vs ++ [.int (K.length : Int) (tk₁ + 1 + 1)], p.e + 1⟩ : Pl) :: PB).map Pl.a = (PA ++ p :: PB).map Pl.a := by simp
      refine turnNext (oP₂, PA ++ ⟨p.a, p.l, p.vs ++ [.int (K.length : Int) (tk₁ + 1 + 1)], p.e + 1⟩ :: PB) F7 ?_ ?_ (by kst_all) ⟨hpm.hit hgf, ?_, ?_, ?_⟩
      · intro z hz
        refine N7 z ?_
        dsimp only at hz
        revert z
        iterate 10 refine subS ?_
        exact subQ (f := Pl.ob) (q := (⟨p.a, p.l, p.vs ++ [.int (K.length : Int) (tk₁ + 1 + 1)], p.e + 1⟩ : Pl))
      · have hs1 : ∀ q ∈ (PA ++ (⟨p.a, p.l, p.vs ++ [.int (K.length : Int) (tk₁ + 1 + 1)], p.e + 1⟩ : Pl) :: PB).map Pl.ob, q.1 ≠ II := (pl_all (P := fun a => a ≠ II)).mpr (by rw [eA]; exact (pl_all (P := fun a => a ≠ II)).mp (List.forall_mem_append.mp f10).1)
        have hs2 : ∀ q ∈ Bs.map Qi.ob, q.1 ≠ II := (List.forall_mem_append.mp f10).2
        dsimp only
        walk_at "MINE sep"
      · dsimp only
        exact List.forall_mem_append.mpr ⟨(pl_all (P := fun a => @LT.lt Nat _ aR a)).mpr (by rw [eA]; exact (pl_all (P := fun a => @LT.lt Nat _ aR a)).mp (List.forall_mem_append.mp hgtP).1), (List.forall_mem_append.mp hgtP).2⟩
      · dsimp only
        have e : (PA ++ (⟨p.a, p.l, p.vs ++ [.int (K.length : Int) (tk₁ + 1 + 1)], p.e + 1⟩ : Pl) :: PB).map Pl.a = (PA ++ p :: PB).map Pl.a := by simp
        rw [e]; exact hnd
      · dsimp only; simp only [List.length_append, List.length_cons] at hfew ⊢; omega
    case miss =>
      try dsimp only at N'
      clear F5 N5
      try dsimp only
      walk_at "MINE go"
      try dsimp only [TurnEnd]
      (rename Fr _ _ _ _ => F7); (rename News _ _ _ _ => N7)
      have N8 : News g L' _ ((D, listOf (List.toArray [Value.int (K.length : Int) (tk₁ + 1 + 1)]) 1) :: _) := N7
      refine turnNext (o', PL₂ ++ [⟨D, y, [.int (K.length : Int) (tk₁ + 1 + 1)], 1⟩]) F7 ?_ ?_ (by kst_all) ⟨hpm.miss hv D' hgf, ?_, ?_, ?_⟩
      · intro z hz
        refine N8 z ?_
        dsimp only at hz
        revert z
        iterate 10 refine subS ?_
        exact subQ0 (f := Pl.ob) (q := (⟨D, y, [.int (K.length : Int) (tk₁ + 1 + 1)], 1⟩ : Pl))
      · have hs1 : ∀ q ∈ (PL₂ ++ [(⟨D, y, [.int (K.length : Int) (tk₁ + 1 + 1)], 1⟩ : Pl)]).map Pl.ob, q.1 ≠ II := by
          rw [List.map_append]
          exact List.forall_mem_append.mpr ⟨(List.forall_mem_append.mp f10).1, List.forall_mem_singleton.mpr (Nat.ne_of_gt l9.1)⟩
        have hs2 : ∀ q ∈ Bs.map Qi.ob, q.1 ≠ II := (List.forall_mem_append.mp f10).2
        dsimp only
        walk_at "MINE sep"
      · dsimp only
        rw [List.map_append]
        exact List.forall_mem_append.mpr ⟨List.forall_mem_append.mpr ⟨(List.forall_mem_append.mp hgtP).1, List.forall_mem_singleton.mpr l9.2.2.2.2.2.2.1⟩, (List.forall_mem_append.mp hgtP).2⟩
      · dsimp only
        rw [List.map_append]
        refine nodup_snocA hnd fun hm => ?_
        refine hideG fun G0 hG0 => ?_
        obtain ⟨z, hz, e⟩ := List.mem_map.mp hm
        refine hG0 ?_
        clear hG0
        have := of_allLt l9.2.2.2.2.2.2.2.2.2.2 z.ob (List.mem_append_left _ (List.mem_map_of_mem hz))
        have e' : z.a = D := e
        exact absurd this (by show ¬ @LT.lt Nat _ z.a D; rw [e']; exact Nat.lt_irrefl _)
      · dsimp only; simp only [List.length_append, List.length_cons, List.length_nil] at hfew ⊢; omega
  case done =>
    rintro ⟨oP₂, PL₂⟩ u₃ h₄ tk₄ hJ9 F₄ N₄
    refine hideG fun G0 hG0 => ?_
    obtain ⟨hpm, hgtP, hnd, hfew⟩ := hJ9
    refine hG0 ?_
    clear hG0
    clear F3 N3
    rw [hul, List.take_length] at hpm
    dsimp only [kstB] at F₄ N₄ hpm hgtP hnd hfew
    have eK : List.map Kl.rf K ++ [Value.ref t] = (K ++ [(⟨t, us, c⟩ : Kl)]).map Kl.rf := by simp [Kl.rf]
    have eI : idx (K ++ [(⟨t, us, c⟩ : Kl)]) = fun l => idx K l ++ if l ∈ c then [(K.length : Int)] else [] := funext fun l => idx_snoc
    try k_fold
    try dsimp only
    walk_at "MINE go"
    all_goals (try dsimp only)
    all_goals (rename Fr _ _ _ _ => F6)
    all_goals (rename News _ _ _ _ => N6)
    all_goals (try simp only [List.push_toArray] at N6)
    all_goals rw [eK] at N6
    all_goals (rename Heap => hE)
    · rename ((us.length : Int) = 0) => hz0
      have hc0 : c = [] := List.eq_nil_of_length_eq_zero (by omega)
      refine hideG fun G0 hG0 => ?_
      suffices key : ∀ te' vh' vo', IntsAre vh' (hs ++ [0]) → IntsAre vo' (os ++ [(us.length : Int)]) → News g L' hE ((x, instObj 145 dx) :: (dx, sDict w τ aC aP aH aO aB aT aR aX (K.length : Int) te') :: (aH, listOf vh'.toArray (eH + 1)) :: (aO, listOf vo'.toArray (eO + 1)) :: (aT, oT) :: (aR, listOf (List.toArray []) eR) ::
          (aC, listOf ((K ++ [(⟨t, us, c⟩ : Kl)]).map Kl.rf).toArray (eC + 1)) :: (aP, oP₂) :: (aB, listOf (Bs.map Qi.rf).toArray eB) :: (PL₂.map Pl.ob ++ Bs.map Qi.ob)) → G0 from key _ _ _ (hvh.append (.cons _ _ .nil)) (hvo.append (.cons _ _ .nil)) N6
      intro te' vh' vo' hvh' hvo' N7
      refine hG0 ?_
      clear hG0
      walk_at "MINE out"
      refine leaveF F6 N7 ?_
      intro F9 N9 S9
      refine hret _ _ _ _ ⟨⟨τ, x, dx, aC, aP, aH, aO, aB, aT, aR, aX, (K.length : Int), te', vh', vo', eC + 1, eH + 1, eO + 1, eB, eR, oP₂, oT, PL₂, Bs⟩, rfl, rfl, ⟨o1, o2, o3, o4, o5, o6, o7, o8, hgtP, hnd, hmT, hmP, hTk, ⟨_, _, hvh', hvo', by rw [hul]; exact ho_snoc (k := ⟨t, us, c⟩) hHO⟩, ?_, hbg.empty hc0, ?_⟩, rfl⟩ F9 N9 S9
      · dsimp only; rw [eI]; exact hpm
      · dsimp only; rw [List.length_append, List.length_singleton]; omega
    · rename ((us.length : Int) = 1) => hz0
      obtain ⟨y, hy⟩ := len_one (lf := c) (by omega)
      have ey : c.getD (Int.toNat 0) 0 = y := by rw [hy]; rfl
      rw [ey] at N6
      refine hideG fun G0 hG0 => ?_
      suffices key : ∀ (D5 : Addr) (tq : Tok) (vh' vo' : List Value), @LT.lt Nat _ aR D5 → IntsAre vh' (hs ++ [0]) → IntsAre vo' (os ++ [(us.length : Int)]) → News g L' hE ((D5, tup [.int y tq, .int (K.length : Int) (tk₁ + 1 + 1)]) :: (x, instObj 145 dx) :: (dx, sDict w τ aC aP aH aO aB aT aR aX em te) :: (aH, listOf vh'.toArray (eH + 1)) :: (aO, listOf vo'.toArray (eO + 1)) :: (aT, oT) :: (aR, listOf (List.toArray []) eR) ::
          (aC, listOf ((K ++ [(⟨t, us, c⟩ : Kl)]).map Kl.rf).toArray (eC + 1)) :: (aP, oP₂) :: (aB, listOf (Bs.map Qi.rf ++ [Value.ref D5]).toArray (eB + 1)) :: (PL₂.map Pl.ob ++ Bs.map Qi.ob)) → G0 from key _ _ _ _ (by omega) (hvh.append (.cons _ _ .nil)) (hvo.append (.cons _ _ .nil)) N6
      intro D5 tq vh' vo' l5 hvh' hvo' N7
      refine hG0 ?_
      clear hG0
      have eB' : List.map Qi.rf Bs ++ [Value.ref D5] = (Bs ++ [(⟨D5, y, tq, (K.length : Int), tk₁ + 1 + 1⟩ : Qi)]).map Qi.rf := by simp [Qi.rf]
      rw [eB'] at N7
      have N8 : News g L' hE ((x, instObj 145 dx) :: (dx, sDict w τ aC aP aH aO aB aT aR aX em te) :: (aH, listOf vh'.toArray (eH + 1)) :: (aO, listOf vo'.toArray (eO + 1)) :: (aT, oT) :: (aR, listOf (List.toArray []) eR) ::
          (aC, listOf ((K ++ [(⟨t, us, c⟩ : Kl)]).map Kl.rf).toArray (eC + 1)) :: (aP, oP₂) :: (aB, listOf ((Bs ++ [(⟨D5, y, tq, (K.length : Int), tk₁ + 1 + 1⟩ : Qi)]).map Qi.rf).toArray (eB + 1)) :: (PL₂.map Pl.ob ++ (Bs ++ [(⟨D5, y, tq, (K.length : Int), tk₁ + 1 + 1⟩ : Qi)]).map Qi.ob)) := by
        intro z hz
        refine N7 z ?_
        revert z
        iterate 9 refine subS ?_
        exact subSL (f := Qi.ob) (q := (⟨D5, y, tq, (K.length : Int), tk₁ + 1 + 1⟩ : Qi))
      walk_at "MINE out"
      refine leaveF F6 N8 ?_
      intro F9 N9 S9
      refine hret _ _ _ _ ⟨⟨τ, x, dx, aC, aP, aH, aO, aB, aT, aR, aX, em, te, vh', vo', eC + 1, eH + 1, eO + 1, eB + 1, eR, oP₂, oT, PL₂, Bs ++ [(⟨D5, y, tq, (K.length : Int), tk₁ + 1 + 1⟩ : Qi)]⟩, rfl, rfl, ⟨o1, o2, o3, o4, o5, o6, o7, o8, ?_, hnd, hmT, hmP, hTk, ⟨_, _, hvh', hvo', by rw [hul]; exact ho_snoc (k := ⟨t, us, c⟩) hHO⟩, ?_, hbg.unit hy, ?_⟩, rfl⟩ F9 N9 S9
      · dsimp only
        rw [List.map_append (f := Qi.ob), ← List.append_assoc]
        exact List.forall_mem_append.mpr ⟨hgtP, List.forall_mem_singleton.mpr l5⟩
      · dsimp only; rw [eI]; exact hpm
      · dsimp only; rw [List.length_append, List.length_singleton]; omega
    · rename ((us.length : Int) ≠ 0) => hz0
      rename ((us.length : Int) ≠ 1) => hz1
      have hc0 : c ≠ [] := fun e => hz0 (by rw [hul, e]; rfl)
      refine hideG fun G0 hG0 => ?_
      suffices key : ∀ vh' vo', IntsAre vh' (hs ++ [0]) → IntsAre vo' (os ++ [(us.length : Int)]) → News g L' hE ((x, instObj 145 dx) :: (dx, sDict w τ aC aP aH aO aB aT aR aX em te) :: (aH, listOf vh'.toArray (eH + 1)) :: (aO, listOf vo'.toArray (eO + 1)) :: (aT, oT) :: (aR, listOf (List.toArray []) eR) ::
          (aC, listOf ((K ++ [(⟨t, us, c⟩ : Kl)]).map Kl.rf).toArray (eC + 1)) :: (aP, oP₂) :: (aB, listOf (Bs.map Qi.rf).toArray eB) :: (PL₂.map Pl.ob ++ Bs.map Qi.ob)) → G0 from key _ _ (hvh.append (.cons _ _ .nil)) (hvo.append (.cons _ _ .nil)) N6
      intro vh' vo' hvh' hvo' N7
      refine hG0 ?_
      clear hG0
      walk_at "MINE out"
      refine leaveF F6 N7 ?_
      intro F9 N9 S9
      refine hret _ _ _ _ ⟨⟨τ, x, dx, aC, aP, aH, aO, aB, aT, aR, aX, em, te, vh', vo', eC + 1, eH + 1, eO + 1, eB, eR, oP₂, oT, PL₂, Bs⟩, rfl, rfl, ⟨o1, o2, o3, o4, o5, o6, o7, o8, hgtP, hnd, hmT, hmP, hTk, ⟨_, _, hvh', hvo', by rw [hul]; exact ho_snoc (k := ⟨t, us, c⟩) hHO⟩, ?_, hbg.other hc0 (by dsimp only; omega), ?_⟩, rfl⟩ F9 N9 S9
      · dsimp only; rw [eI]; exact hpm
      · dsimp only; rw [List.length_append, List.length_singleton]; omega
-- New
theorem top_New : True := by
  w_top off
  trivial
theorem sep2 {x dx : Addr} {o o' : Obj} {rest : List (Addr × Obj)} (l1 : ∀ p ∈ [] ++ rest, p.1 < dx) (l2 : dx < x) : ∀ p ∈ [(x, o), (dx, o')], ∀ q ∈ rest, p.1 ≠ q.1 := by
  intro p hp q hq e
  have h1 := l1 q hq
  rcases List.mem_cons.mp hp with rfl | hp
  · have e : x = q.1 := e
    exact absurd (Nat.lt_trans h1 l2) (by rw [e]; exact Nat.lt_irrefl _)
  · rw [List.mem_singleton.mp hp] at e
    have e : dx = q.1 := e
    exact absurd h1 (by rw [e]; exact Nat.lt_irrefl _)
/-- as Does; what is only looked at lies in the ground or among what stands -/
def DoesK (w : World) (f : Addr) (args : List Value) (imm : List (Addr × Obj)) (n : Nat) (Post : Value → List (Addr × Obj) → Prop) : Prop :=
  ∀ (mean : ExcName → Option Value) (mg mb : Str → Option Value) (dp un : Nat) (gd : Option (List Code)) (cn : Str) (cs : Scope) (a : Addr) (ccd : Value) (cl : List (Str × Addr)) (outer : List Env) (A₀ : Around) (base h₀ : Heap) (L : Addr) (m : Str → Option Value)
    (rest : List (Addr × Obj)) (s : Shared) (Q E : Value → Shared → Prop),
    Amb w mean mg mb A₀ base h₀ outer → cs.kind = .function → Fr h₀ L s.heap m → News h₀ L s.heap rest → (∀ p ∈ imm, h₀.get? p.1 = some p.2 ∨ p ∈ rest) →
    dp + n < recursionLimit → un + 10 * n < cLine →
    (∀ r own' h' tk, Post r own' → Fr h₀ L h' m → News h₀ L h' (own' ++ rest) → (∀ p ∈ own', ∀ q ∈ rest, p.1 ≠ q.1) → Q r { s with heap := h', toks := tk }) →
    wpAny (model Prog w) (ktrTop dp un gd cn cs L a ccd cl outer) (call (.ref f) args) Q E s
theorem new_u {w : World} {P : Addr} {K : List Kl} {eP : Nat} (hK : KOk 5 K) (hKl : K.length ≤ 10) :
    DoesK w 145 [.ref P] ((P, listOf (K.map Kl.rf).toArray eP) :: K.map Kl.ob) 6
      (fun v own => ∃ u : US, v = .ref u.x ∧ own = u.own w ++ u.more K ∧ u.Ok w K) := by
  intro mean mg mb dp un gd cn cs a ccd cl outer A₀ base h₀ L m rest s Q E G hk F N himm hd hu hret
  refine call_cls (fI := 99) F G.X N (by k_is) (by k_is) (by k_is) fun x dx h' F₁ N₁ l1 l2 => ?_
  have hiP : ∀ p ∈ (P, listOf (K.map Kl.rf).toArray eP) :: K.map Kl.ob, h'.get? p.1 = some p.2 ∧ p.1 ∉ [x, dx] := fun p hp => by
    have nx := (N₁ _ (.head _)).2.2
    have nd := (N₁ _ (.tail _ (.head _))).2.2
    dsimp only at nx nd
    rcases himm p hp with h1 | h1
    · refine ⟨F₁.keep _ _ h1, fun hm => ?_⟩
      rcases List.mem_cons.mp hm with e | hm
      · rw [e, nx] at h1; cases h1
      · rw [List.mem_singleton.mp hm, nd] at h1; cases h1
    · refine ⟨(N₁ p (.tail _ (.tail _ h1))).1, fun hm => ?_⟩
      have hlt := l1 p h1
      rcases List.mem_cons.mp hm with e | hm
      · rw [e] at hlt; exact absurd (Nat.lt_trans hlt l2) (Nat.lt_irrefl _)
      · rw [List.mem_singleton.mp hm] at hlt; exact absurd hlt (Nat.lt_irrefl _)
  k_dflt (refine' enterF (own := [(x, instObj 145 dx), (dx, dictOf [] 0)]) (rest := rest) ?k1 ?k2 ?k3 ?k4 ?kA ?kF ?kK ?k6 ?k7 ?k8 ?k9 ?kB ?_ ?c5 ?c2 ?c3 ?c4; (case kA => exact rfl); (case kF => exact rfl); (case kK => assumption); (case k1 => assumption); (case k2 => assumption); (case k3 => assumption); (case k4 => exact sep2 l1 l2); (case k6 => k_is); (case k7 => k_is); (case k8 => (simp only [depth_under_make, depth_under_kw, depth_in1, depth_deeper, depth_caller]; show dp + 1 < recursionLimit; omega)); (case k9 => exact BindsTo.of_eq rfl); (case c5 => decide); (case kB => exact locs rfl); (case c2 => exact rfl); (case c3 => exact rfl); (case c4 => exact rfl); k_whole)
  simp only [List.map_cons, List.map_nil, List.zip_cons_cons, List.zip_nil_right, List.zip_nil_left, List.reverse_cons, List.reverse_nil, List.nil_append, List.cons_append]
  intro g L' h₁ tk₁ FG F' N' G' st lt
  refine hideF (by passes_own) rfl fun AA Qf Ef hAA hAh hEf hQf => ?_
  have hI : ∀ p ∈ (P, listOf (K.map Kl.rf).toArray eP) :: K.map Kl.ob, g.get? p.1 = some p.2 := fun p hp => st _ _ (hiP p hp).1 (hiP p hp).2
  have hgP := hI _ (.head _)
  clear F N G st himm F₁ N₁ hiP
  k_lt2 l2
  k_lt lt
  have ⟨B', X', T'⟩ := G'
  try dsimp only
  try k_fold
  walk_at "MINE go"
  walk_at "MINE for"
  walk_at "MINE go"
  rename News _ _ _ _ => N3; rename Fr _ _ _ _ => F3; rename Heap => hE
  refine hideG fun G0 hG0 => ?_
  suffices key : ∀ (aC aP aH aO aB aT aR aX : Addr) (oP oT : Obj) (t0 t1 t2 t3 t4 t5 t6 t7 t8 te : Tok) (oX : Obj), @LT.lt Nat _ x aC → @LT.lt Nat _ aC aP → @LT.lt Nat _ aP aH → @LT.lt Nat _ aH aO → @LT.lt Nat _ aO aB → @LT.lt Nat _ aB aT → @LT.lt Nat _ aT aR → (aP == sysModules) = false → (aT == sysModules) = false → oP.IsDictOf (intKind Prog w) [] → oT.IsDictOf (intKind Prog w) [] →
      News g L' hE [(aX, oX), (aR, listOf (List.toArray []) 0), (aT, oT), (aB, listOf (List.toArray []) 0), (aO, listOf (List.toArray []) 0), (aH, listOf (List.toArray []) 0), (aP, oP), (aC, listOf (List.toArray []) 0), (x, instObj 145 dx),
        (dx, dictOf [sE w (Str.ofString "clauses") t0 (.ref aC), sE w (Str.ofString "places") t1 (.ref aP), sE w (Str.ofString "held") t2 (.ref aH), sE w (Str.ofString "open") t3 (.ref aO), sE w (Str.ofString "begun") t4 (.ref aB), sE w (Str.ofString "empty") t5 (.int (-1) te), sE w (Str.ofString "taken") t6 (.ref aT), sE w (Str.ofString "trail") t7 (.ref aR), sE w (Str.ofString "clash") t8 (.ref aX)] 9)] → G0
    from key _ _ _ _ _ _ _ _ _ _ _ _ _ _ _ _ _ _ _ _ _ (by first | (walk_at "MINE cj") | omega) (by first | (walk_at "MINE cj") | omega) (by first | (walk_at "MINE cj") | omega) (by first | (walk_at "MINE cj") | omega) (by first | (walk_at "MINE cj") | omega) (by first | (walk_at "MINE cj") | omega) (by first | (walk_at "MINE cj") | omega) (by assumption) (by assumption) (by assumption) (by assumption) N3
  clear N3
  intro aC aP aH aO aB aT aR aX oP oT t0 t1 t2 t3 t4 t5 t6 t7 t8 te oX g1 g2 g3 g4 g5 g6 g7 mP mT dP dT N4
  refine hideG fun G0 hG0 => ?_
  obtain ⟨u0, hu0⟩ : ∃ u0 : US, u0 = ⟨fun i => [t0, t1, t2, t3, t4, t5, t6, t7, t8].getD i t8, x, dx, aC, aP, aH, aO, aB, aT, aR, aX, -1, te, [], [], 0, 0, 0, 0, 0, oP, oT, [], []⟩ := ⟨_, rfl⟩
  refine hG0 ?_
  clear hG0
  have N5 : News g L' hE (u0.own w ++ u0.more []) := fun p hp => by
    subst hu0
    refine N4 p ?_
    clear N4
    dsimp only [US.own, US.more, own6, sDict] at hp
    simp only [List.map_nil, List.append_nil, List.cons_append, List.nil_append] at hp
    revert p
    walk_at "MINE sub"
  have hx0 : u0.x = x := by rw [hu0]
  have hok0 : u0.Ok w [] := by
    subst hu0
    exact ⟨l2, g1, g2, g3, g4, g5, g6, g7, fun _ h => (nomatch h), .nil, mT, mP, ⟨[], dT, rfl⟩, ⟨[], [], .nil, .nil, rfl, rfl⟩, ⟨dP, fun _ h => (nomatch h), fun _ _ => rfl, .nil⟩, ⟨.inr ⟨by show (-1 : Int) < 0; decide, fun _ h => (nomatch h)⟩, fun _ h => (nomatch h), fun _ h => (nomatch h), Nat.le_refl _⟩, Nat.le_refl _⟩
  clear N4 hu0
  refine hG0 ?_
  clear hG0
  refine halt_mk ?_
  refine loop_list (σ := US × List Kl) (fun z => z.1.own w ++ z.1.more z.2) (fun z => [(Str.ofString "self", .ref z.1.x)]) (fun i z => z.1.Ok w z.2 ∧ z.2 = K.take i ∧ z.1.x = x) (u0, []) hAh (.inl ⟨_, hgP, rfl, _, rfl⟩) F3 N5 (by rw [hx0]; kst_all) ⟨hok0, rfl, hx0⟩ ?turn ?done
  case turn =>
    rintro i v ⟨u, Kp⟩ u₃ h₄ tk₄ II oI hvi hJ9 hoff F₄ N₄
    refine hideQ fun Qt hQt => ?_
    refine hideG fun G0 hG0 => ?_
    obtain ⟨hok, hKp, hux⟩ := hJ9
    refine hG0 ?_
    clear hG0
    dsimp only [kstB] at F₄ N₄ hok hKp hux hoff
    clear F3 N5
    rw [List.getElem?_map] at hvi
    refine hideG fun G0 hG0 => ?_
    obtain ⟨k, hk1, rfl⟩ := Option.map_eq_some_iff.mp hvi
    have hkK : k ∈ K := List.mem_of_getElem? hk1
    obtain ⟨hku, hks, hkp⟩ := hK k hkK
    refine hG0 ?_
    clear hG0
    have hgk := hI k.ob (List.mem_cons_of_mem _ (List.mem_map_of_mem hkK))
    dsimp only [Kl.rf] at F₄
    try k_fold
    walk_at "MINE go"
    refine Does.useA hAA [(II, oI)] (add_u hok (by rw [hKp, List.length_take]; omega) hku hks hkp) G' rfl F₄ N₄ (fun p hp => (List.mem_append.mp hp).elim (fun h => .tail _ h) fun h => by rw [List.mem_singleton.mp h]; exact .head _) (fun p hp q hq => by rw [List.mem_singleton.mp hq]; exact hoff p hp) (fun p hp => .inl (by rw [List.mem_singleton.mp hp]; exact hgk)) (by show dp + 1 + 1 + 2 < recursionLimit; omega) (by (simp only [units_under_make]); (try dsimp only [Around.deeper, ktrTop]); omega) ?_
    rintro v9 own9 h₇ tk₇ hJ9 F₉ N₉ S₉
    refine hideG fun G0 hG0 => ?_
    obtain ⟨u', rfl, e1, hok', rfl⟩ := hJ9
    refine hG0 ?_
    clear hG0
    clear F₄ N₄
    try dsimp only
    try k_fold
    walk_at "MINE go"
    try dsimp only [TurnEnd]
    refine turnNext (u', Kp ++ [k]) F₉ (fun p hp => N₉ p (List.mem_append.mpr (by
      rcases List.mem_cons.mp hp with rfl | hp
      · exact .inr (.head _)
      · exact .inl hp))) (fun p hp => S₉ p hp _ (.head _)) (by dsimp only; rw [e1]; kst_all) ⟨hok', ?_, e1.trans hux⟩
    dsimp only
    rw [hKp, List.take_add_one, hk1]; rfl
  case done =>
    rintro ⟨u, Kp⟩ u₃ h₄ tk₄ hJ9 F₄ N₄
    refine hideG fun G0 hG0 => ?_
    obtain ⟨hok, hKp, hux⟩ := hJ9
    refine hG0 ?_
    clear hG0
    clear F3 N5
    dsimp only [kstB] at F₄ N₄ hok hKp hux
    try k_fold
    try dsimp only
    walk_at "MINE go"
    try dsimp only
    rw [List.length_map, List.take_length] at hKp
    subst hKp
    walk_at "MINE out"
    refine leaveF F₄ N₄ ?_
    intro F9 N9 S9
    refine ⟨rfl, ?_⟩
    show Q (.ref x) _
    rw [← hux]
    exact hret _ _ _ _ ⟨u, rfl, rfl, hok⟩ F9 N9 S9
-- ExcA
theorem top_ExcA : True := by
  w_top off
  trivial
/-- a new ProofFault -/
abbrev xObj (t : Addr) (d : Option Addr) : Obj := { cls := .ref 76, dict := d, data := .fields #[.ref t, .none, .none, .none, .bool false, .none] }
abbrev bm76 : List Value := [.ref 47, .type "Exception", .type "BaseException", .type "object"]

section
variable {w : World} {A : Around} {R : Result → Shared → Prop} {h : Heap} {g : Array GenState} {d : Drawn} {t : Nat} {os : OsState}
theorem exc_check {M : Model} {E : Value → Shared → Prop} {rest : List Value} {Q : Unit → Shared → Prop} (X : (Mine.hd.heap_1 w.params).In h)
    (hq : Q () ⟨h, g, d, t, os⟩) : wpAny M A (checkBuiltinCall "Exception.__new__" ⟨.ref 76 :: rest, []⟩) Q E ⟨h, g, d, t, os⟩ := by
  have hC := X 76 _ rfl
  have F := PySem.F.excBase_Exception
  have hcont : (Value.ref 76 :: bm76).contains (.type "Exception") = true := by decide
  have hstar := F.noStar
  simp only [checkBuiltinCall, F.newKind, F.newSplit, F.newRow]
  repeat (first | refine wpAny_loadPart_at hC ?_ | (refine wpAny_isSubtype_exc (bm := bm76) hC ?_; rw [hcont]) | refine wpAny_staticBase_exc (bm := bm76) hC ?_ | refine wpAny_madeBy_exc (bm := bm76) hC ?_ | simp only [bne_self_eq_false, Bool.false_eq_true, if_false] | wp_step)
  exact hq
theorem exc_new {rest : List Value} (X : (Mine.hd.heap_1 w.params).In h)
    (hq : R (.ok (.ret (.ref (h.objs.size + 1)))) ⟨(h.push (tup rest)).push (xObj h.objs.size none), g, d, t, os⟩) (hrest : rest.length ≤ sizeLine) :
    codeAny (model Prog w) A (.builtin "Exception.__new__" ⟨.ref 76 :: rest, []⟩) R ⟨h, g, d, t, os⟩ := by
  have hC := X 76 _ rfl
  have F := PySem.F.excBase_Exception
  have hends := F.ends
  have hcB : (Value.ref 76 :: bm76).contains (.type "Exception") = true := by decide
  have hcA : (Value.ref 76 :: bm76).contains (.type "AttributeError") = false := by decide
  have hcN : (Value.ref 76 :: bm76).contains (.type "NameError") = false := by decide
  refine codeAny_builtinAt F.entry ?_
  unfold Builtin.«BaseException.__new__»
  refine PySem.wpAt_bind ?_
  show PySem.wpAt _ _ _ (stack >>= _) _ _ _
  refine PySem.wpAt_bind (PySem.wpAt_stack fun p below => PySem.wpAt_of_wpAny ?_)
  wp_walk
  refine PySem.wpAt_of_wpAny ?_
  rw [F.owner]
  repeat (first | with_reducible refine wpAny_madeHere_exc (bm := bm76) F.canon hC ?_ | with_reducible refine wpAny_loadPart_at hC ?_ | (with_reducible refine wpAny_isSubtype_exc (bm := bm76) hC ?_; first | rw [hcB] | rw [hcA] | rw [hcN]) | wp_step)
  show R _ _
  rw [Heap.size_push]
  exact hq
theorem exc_make {rest : List Value} (X : (Mine.hd.heap_1 w.params).In h) (hrest : rest.length ≤ sizeLine)
    (hq : codeAny (model Prog w) (A.under (.builtin "type.__call__" ⟨.ref 76 :: rest, []⟩)) (.call (.ref 66) ⟨.ref (h.objs.size + 1) :: rest, []⟩) (InitBack (h.objs.size + 1) R) ⟨(h.push (tup rest)).push (xObj h.objs.size none), g, d, t, os⟩) :
    codeAny (model Prog w) A (.call (.ref 76) ⟨rest, []⟩) R ⟨h, g, d, t, os⟩ := by
  have hC := X 76 _ rfl
  have F := PySem.F.excBase_Exception
  have call : Looks (model Prog w) h (specialOf (.ref 76) "__call__") (some (.builtin "type.__call__")) := looks_specialIn X (by k_is)
  have typ : Looks (model Prog w) h (isInstance (.ref 76) (.type "type")) true := looks_instIn X (by k_is)
  have made : Looks (model Prog w) h (Bind.madeBy (.ref 76)) (some "Exception.__new__") := fun A Q E s k q => by
    obtain ⟨hh, g, d, t, os⟩ := s
    exact wpAny_madeBy_exc (bm := bm76) (k _ _ hC) q
  have hi : Looks (model Prog w) h (typeLookup (.ref 76) "__init__") (some (.ref 66)) := looks_findIn X (by k_is)
  have self : Looks (model Prog w) h (isSubtype (.ref 76) (.ref 76)) true := looks_mroIn X (by k_is)
  refine codeAny_of_tree ?_
  show wpAny _ _ (callAny (.ref 76) _) _ _ _
  refine nd_load hC ?_
  show wpAny _ _ (callAny.viaDunder (.ref 76) _) _ _ _
  unfold callAny.viaDunder
  refine wpAny_bind (call.at ?_)
  dsimp only
  rw [tc_bind]
  refine wpAny_bind (wpAny_pure (wpAny_bind (wpAny_pure ?_)))
  refine wpAny_pure (a := Fin.again (.call (.builtin "type.__call__") ⟨.ref 76 :: rest, []⟩)) (And.intro rfl ?_)
  refine codeAny_call_builtin_at (Code.quiet_builtin _ (by decide +kernel)) entry_typeCall (check_slot tc_kind tc_split typ (tc_args _ _ _) ?_)
  unfold Builtin.«type.__call__»
  have hm : Looks (model Prog w) h (mroOf (.ref 76)) (.ref 76 :: bm76) := ((Looks.ld (part := none) hC).andThen .now).andThen .now
  repeat (first | simp only [Bool.false_eq_true, if_false] | with_reducible refine wpAny_call ?_ | lk)
  refine codeAny_call_builtin_code (Code.quiet_builtin _ F.quiet) (exc_check X ?_)
  refine exc_new X ?_ hrest
  have k : ∀ b o, h.get? b = some o → ((h.push (tup rest)).push (xObj h.objs.size none)).get? b = some o := fun b o e => Heap.get?_push_of_some _ (Heap.get?_push_of_some _ e)
  have hx : ((h.push (tup rest)).push (xObj h.objs.size none)).get? (h.objs.size + 1) = some (xObj h.objs.size none) := by heap_get
  have t1 : Looks (model Prog w) ((h.push (tup rest)).push (xObj h.objs.size none)) (typeOf (.ref (h.objs.size + 1))) (.ref 76) := (Looks.ld hx).andThen .now
  have s1 := self.keeps k
  have i1 := hi.keeps k
  have b1 := (bind_fn (M := model Prog w) X (f := 66) (.ref (h.objs.size + 1)) (by k_is)).keeps k
  dsimp only
  unfold isInstance callSpecial? specialOf
  repeat (first | with_reducible refine wpAny_call ?_ | lk)
  refine codeAny_mono hq fun r s' z => ?_
  rcases r with e | (v | _ | _ | _) <;> first | exact z | exact z.elim | skip
  obtain ⟨rfl, z⟩ := z
  exact wpAny_pure (wpAny_pure z)
end
-- ExcB
theorem top_ExcB : True := by
  w_top off
  trivial
section
variable {w : World} {A : Around} {E : Value → Shared → Prop} {h : Heap} {g : Array GenState} {d : Drawn} {t : Nat} {os : OsState} {x : Addr} {mA : Str → Option Value} {name : Str} {v : Value}
open Builtin Builtin.ObjectAttr
theorem inst_at (I : h.Inst x 76 mA) : ∃ o od, InstAt h x o 76 od := by
  obtain ⟨o, hx, hc, hn, hd⟩ := I
  have no : notCls o = true := by
    unfold notCls
    split
    · rename_i c e; exact absurd e (hn c)
    · rfl
  rcases hd with ⟨e, _⟩ | ⟨dx, e, _, hns⟩
  · exact ⟨o, none, hx, hc, no, by rw [e]; trivial⟩
  · obtain ⟨od, _, _, ho, _⟩ := hns
    exact ⟨o, some od, hx, hc, no, by rw [e]; exact ho⟩
theorem exc_pass (self : Value) : refuseLoop self "__setattr__" (.ref 76 :: bm76) = pure () := by
  rw [refuseLoop_ref, refuseLoop_ref]
  exact PySem.F.store_Exception.passes self
theorem exc_store {Q : Unit → Shared → Prop} {ns : List Str} (X : (Mine.hd.heap_1 w.params).In h) (hname : findIn (Mine.hd.heap_1 w.params) (.ref 76) name = some none) (I : h.Inst x 76 mA) (hw : Within mA ns) (hsz : ns.length ≤ 100)
    (hq : ∀ h' tk', h'.Inst x 76 (fun y => if y = name then some v else mA y) →
      (∀ b o, b ≠ x → (∀ o₀ dx, h.get? x = some o₀ → o₀.dict = some dx → b ≠ dx) → h.get? b = some o → h'.get? b = some o) →
      (∀ o₀, h.get? x = some o₀ → ∃ o₁, h'.get? x = some o₁ ∧ o₁.data = o₀.data ∧ o₁.slots = o₀.slots ∧ ∃ dx, o₁.dict = some dx ∧ (o₀.dict = some dx ∨ (o₀.dict = none ∧ h.get? dx = none))) → Q () ⟨h', g, d, tk', os⟩) :
    wpAny (model Prog w) A (setAttr (.ref x) name v) Q E ⟨h, g, d, t, os⟩ := by
  obtain ⟨o, od, IA⟩ := inst_at I
  obtain ⟨o', hx, hc, hnc, hd⟩ := I
  obtain rfl : o = o' := Option.some.inj (IA.at_.symm.trans hx)
  have hC := X 76 _ rfl
  have SF := PySem.F.store_object
  refine set_plain (s := ⟨h, g, d, t, os⟩) X IA (by k_is) ?_
  have sub : Looks (model Prog w) h (isInstance (.ref x) (.type "object")) true := IA.type.andThen (looks_mroIn X (by k_is))
  refine codeAny_call_builtin SF.slot.plain SF.entry (@check_slot (model Prog w) _ _ ⟨h, g, d, t + 1, os⟩ "object.__setattr__" "object" "__setattr__" (.ref x) [.str name t, v] [] _ SF.kind SF.split sub (SF.args (.ref x) (.str name t) v) ?_)
  have hm : Looks (model Prog w) h (mroOf (.ref 76)) (.ref 76 :: bm76) := ((Looks.ld (part := none) hC).andThen .now).andThen .now
  rw [osa_eq, refuse_eq]
  refine wpAny_bind (wpAny_bind (IA.type.here (wpAny_bind (hm.here ?_))))
  rw [exc_pass]
  refine wpAny_pure (wpAny_bind (IA.type.here (wpAny_bind ((looks_findIn X hname).here (wpAny_bind (wpAny_pure ?_))))))
  dsimp only
  unfold storeInOwnDict
  refine wpAny_bind (wpAny_pure (wpAny_bind (wpAny_bind (wpAny_loadPart hx ?_))))
  rw [hc]
  dsimp only
  have hcd : Looks (model Prog w) h (classData 76) { name := Str.ofString "ProofFault", bases := [.ref 47], mro := .ref 76 :: bm76, ns := 75, qualname := Str.ofString "ProofFault" } := (Looks.ld (part := none) hC).andThen .now
  refine wpAny_bind (hcd.here ?_)
  dsimp only
  rw [if_neg (by decide)]
  rcases hd with ⟨hdn, hmA⟩ | ⟨dx, hdx, hne, hns⟩
  · rw [hdn]
    dsimp only
    rw [if_neg (by simp [typeHasDict])]
    split
    · rename_i c hcd
      exact absurd hcd (hnc c)
    · have hx₁ : (h.push { cls := .type "dict", data := .dict #[] }).get? x = some o := Heap.get?_push_of_some _ hx
      have hxs : x ≠ h.objs.size := Nat.ne_of_lt (Heap.lt_size hx)
      refine wpAny_bind (wpAny_alloc' ?_)
      refine wpAny_bind (wpAny_update' hx₁ ?_)
      refine wpAny_pure ?_
      have hgd : ((h.push { cls := .type "dict", data := .dict #[] }).update x fun o => { cls := o.cls, dict := some h.objs.size, data := o.data, slots := o.slots }).get? h.objs.size
          = some { cls := .type "dict", data := .dict #[] } :=
        (Heap.get?_update_ne _ _ _ _ hxs.symm).trans (Heap.get?_push_at rfl rfl)
      have hnd : ((h.push { cls := .type "dict", data := .dict #[] }).update x fun o => { cls := o.cls, dict := some h.objs.size, data := o.data, slots := o.slots }).Ns h.objs.size (fun _ => none) :=
        ⟨_, #[], _, hgd, rfl, fun e he => absurd he (by simp), fun _ => rfl⟩
      show wpAny _ _ (storeInDict h.objs.size (.str name t) name v) _ _ _
      unfold storeInDict newKeyGuard
      refine wpAny_bind (wpAny_pure (wpAny_bind (wpAny_nsSet1 (Heap.Ns1.of_empty hnd) fun h' hn' hs => ?_)))
      obtain ⟨oD, esD, epD, hoD, hdD, hcD⟩ := hn'.count (Within.cons name v Within.nil)
      refine wpAny_bind (wpAny_lookBehind hoD (by rw [hdD]; exact pastItsLine_dict (Nat.le_trans hcD (by rw [List.length_cons, List.length_nil, sizeLine_eq]; omega))) ?_)
      have hx' : h'.get? x = some { cls := o.cls, dict := some h.objs.size, data := o.data, slots := o.slots } := by
        refine (hs.2 x hxs).trans (Heap.get?_update_self _ hx₁ ?_)
        have hfr := (Heap.get?_some_iff.mp hx).2
        obtain ⟨oc, od, odt, osl⟩ := o
        cases odt <;> first | rfl | exact hfr
      refine wpAny_pure (hq h' _ ⟨{ cls := o.cls, dict := some h.objs.size, data := o.data, slots := o.slots }, hx', hc, hnc, .inr ⟨h.objs.size, rfl, hxs.symm, ?_⟩⟩ (fun b ob hbx _ hb => ?_)
        (fun o₀ h₀ => by obtain rfl : o = o₀ := Option.some.inj (hx.symm.trans h₀); exact ⟨_, hx', rfl, rfl, h.objs.size, rfl, .inr ⟨hdn, Heap.get?_none_of_le (Nat.le_refl _)⟩⟩))
      · obtain ⟨o', es, ep, e1, e2, e3, eu, e4⟩ := hn'
        exact ⟨o', es, ep, e1, e2, e3, eu, fun y => by rw [e4 y]; by_cases hy : y = name <;> simp [hy, hmA]⟩
      · exact (hs.2 b (Nat.ne_of_lt (Heap.lt_size hb))).trans ((Heap.get?_update_ne _ _ _ _ hbx).trans (Heap.get?_push_of_some _ hb))
  · rw [hdx]
    refine wpAny_pure ?_
    show wpAny _ _ (storeInDict dx (.str name t) name v) _ _ _
    unfold storeInDict newKeyGuard
    refine wpAny_bind (wpAny_pure (wpAny_bind (wpAny_nsSet1 hns fun h' hn' hs => ?_)))
    obtain ⟨oD, esD, epD, hoD, hdD, hcD⟩ := hn'.count (Within.cons name v hw)
    refine wpAny_bind (wpAny_lookBehind hoD (by rw [hdD]; exact pastItsLine_dict (Nat.le_trans hcD (by rw [List.length_cons, sizeLine_eq]; omega))) ?_)
    refine wpAny_pure (hq h' _ ⟨o, (hs.2 x hne.symm).trans hx, hc, hnc, .inr ⟨dx, hdx, hne, hn'⟩⟩ (fun b ob _ hbd hb => ?_)
      (fun o₀ h₀ => ⟨o₀, (hs.2 x hne.symm).trans h₀, rfl, rfl, ?_⟩))
    · exact (hs.2 b (hbd o dx hx hdx)).trans hb
    · obtain rfl : o = o₀ := Option.some.inj (hx.symm.trans h₀)
      exact ⟨dx, hdx, .inl hdx⟩
end
-- ExcD
theorem top_ExcD : True := by
  w_top off
  trivial
theorem type_ei : typeOf (.builtin "Exception.__init__") = pure (.type "wrapper_descriptor") := by show builtinType _ = _; rw [builtinType_eq_fast]; kernel_rfl
theorem slot_wg : Slot "wrapper_descriptor" "__get__" "wrapper_descriptor.__get__" := .of (owner := "wrapper_descriptor") (n := "__get__") (by rw [typeLookup_type, builtinLookup_eq_fast]; kernel_rfl) (by decide +kernel) (by decide +kernel) (by decide +kernel)
  (by first | exact .inl (by decide +kernel) | exact .inr (by decide +kernel)) (by rw [isSubtype_type]; kernel_rfl)
theorem entry_wg : entryFor table "wrapper_descriptor.__get__" = some Builtin.«wrapper_descriptor.__get__» := entryFor_of_tree (by kernel_rfl)
theorem args_wg (a b c : Value) : argsOk "wrapper_descriptor.__get__" ⟨[a, b, c], []⟩ := by unfold argsOk; kernel_rfl
abbrev mwObj (e : Addr) : Obj := { cls := .type "method-wrapper", data := .fields #[.builtin "Exception.__init__", .ref e] }
section
variable {w : World} {A : Around} {E : Value → Shared → Prop} {h : Heap} {g : Array GenState} {d : Drawn} {t : Nat} {os : OsState} {e so : Addr} {o : Obj}
theorem wg_run {Q : PySem.Fin → Shared → Prop} (X : (Mine.hd.heap_1 w.params).In h) {od : Option Obj} (I : InstAt h e o 76 od)
    (hq : Q (.done (.ret (.ref h.objs.size))) ⟨h.push (mwObj e), g, d, t, os⟩) :
    wpAny (model Prog w) A (Builtin.«wrapper_descriptor.__get__» ⟨[.builtin "Exception.__init__", .ref e, .ref 76], []⟩) Q E ⟨h, g, d, t, os⟩ := by
  have sub : Looks (model Prog w) h (isInstance (.ref e) (.type "Exception")) true := I.type.andThen (looks_mroIn X (by k_is))
  unfold Builtin.«wrapper_descriptor.__get__»
  repeat (first | (with_reducible refine wpAny_bind (sub.at ?_)) | wp_step | dsimp only)
  all_goals exact hq
set_option maxHeartbeats 1000000 in
theorem sg_run {tk : Tok} {name : Str} (hn : (name == Str.ofString "__class__") = false) (hf : alongIn (Mine.hd.heap_1 w.params) name [.type "Exception", .type "BaseException", .type "object"] = some (some (.builtin "Exception.__init__"))) {Q : PySem.Fin → Shared → Prop} (X : (Mine.hd.heap_1 w.params).In h) {od : Option Obj} (I : InstAt h e o 76 od) (hso : h.get? so = some (ks_superObj 47 e 76)) (hno : Looks (model Prog w) h (opaqueClassAbove (.ref 76)) none)
    (hq : Q (.done (.ret (.ref h.objs.size))) ⟨h.push (mwObj e), g, d, t, os⟩) :
    wpAny (model Prog w) A (Builtin.«super.__getattribute__» ⟨[.ref so, .str name tk], []⟩) Q E ⟨h, g, d, t, os⟩ := by
  have hlk := slot_wg.lookup
  have hC := X 76 _ rfl
  have hm : Looks (model Prog w) h (mroOf (.ref 76)) (.ref 76 :: bm76) := ((Looks.ld (part := none) hC).andThen .now).andThen .now
  have hl : ((Value.ref 76 :: bm76).dropWhile (· != .ref 47)).drop 1 = [.type "Exception", .type "BaseException", .type "object"] := by decide
  have hxC : e ≠ 76 := fun q => by
    have := I.at_
    rw [q, hC] at this
    have h2 := I.no
    rw [← Option.some.inj this] at h2
    exact Bool.noConfusion h2
  have hne : (Value.ref e == Value.ref 76) = false := by simp [hxC]
  have hdt : (ks_superObj 47 e 76).data = .fields #[.ref 47, .ref e, .ref 76] := rfl
  have f0 : (#[.ref 47, .ref e, .ref 76] : Array Value)[0]? = some (.ref 47) := rfl
  have f1 : (#[.ref 47, .ref e, .ref 76] : Array Value)[1]? = some (.ref e) := rfl
  have f2 : (#[.ref 47, .ref e, .ref 76] : Array Value)[2]? = some (.ref 76) := rfl
  have hT := type_ei
  unfold Builtin.«super.__getattribute__»
  repeat (first
    | (with_reducible refine wpAny_field hso hdt f0 ?_) | (with_reducible refine wpAny_field hso hdt f1 ?_) | (with_reducible refine wpAny_field hso hdt f2 ?_)
    | (with_reducible refine ks_wpAny_notOpaque hno ?_)
    | (with_reducible refine Looks.at hm ?_; rw [hl])
    | (refine ks_forIn_along X (fun _ _ => rfl) rfl ?_ hf)
    | ((with_reducible show wpAny _ _ (call (Value.builtin _) _) _ _ _); refine wpAny_call_entry slot_wg type_ei entry_wg ?_ (args_wg _ _ _))
    | (with_reducible refine wg_run X I ?_)
    | (with_reducible refine ⟨_, rfl, ?_⟩)
    | (simp only [hn, hne, Bool.or_false, Bool.false_eq_true, if_false])
    | wp_step
    | dsimp only)
  all_goals exact hq
theorem super_m {pl : Sem Bool} {Q : Value × List Value → Shared → Prop} (X : (Mine.hd.heap_1 w.params).In h) {od : Option Obj} (I : InstAt h e o 76 od) (hso : h.get? so = some (ks_superObj 47 e 76))
    (hq : Q (.ref h.objs.size, []) ⟨h.push (mwObj e), g, d, t + 1, os⟩) :
    wpAny (model Prog w) A (getMethod (.ref so) (Str.ofString "__init__") pl) Q E ⟨h, g, d, t, os⟩ := by
  have hno : Looks (model Prog w) h (opaqueClassAbove (.ref 76)) none := looks_opaque X (by k_is)
  have hlk := PySem.F.ks_slot_super_ga.lookup
  have hcan := PySem.F.ks_canon_super_ga
  have hT : ∀ t', (⟨h, g, d, t', os⟩ : Shared).TypeIs (.ref so) "super" := fun _ => ⟨_, hso, rfl⟩
  unfold getMethod
  refine wpAny_bind (wpAny_specialOf (hT _) hlk ?_)
  show wpAny _ _ (if (Manifest.canonical "super.__getattribute__" != "object.__getattribute__") = true then _ else _) _ _ _
  rw [if_pos hcan]
  unfold getAttr getAttrBy
  refine wpAny_bind (wpAny_bind (wpAny_mkText (wpAny_holding (wpAny_bind (wpAny_typeOf (hT _) (wpAny_bind (wpAny_of_eq hlk ?_)))))))
  show wpAny _ _ (getAttrByItsOwn (.ref so) (.str (Str.ofString "__init__") t) (.type "super") (.builtin "super.__getattribute__") true false) _ _ _
  unfold getAttrByItsOwn hookBefore callGetattribute boundAndCalled
  refine wpAny_bind (wpAny_of_eq (show (if onTheHeap (.type "super") then typeLookup (.type "super") "__getattr__" else pure none) = pure none from rfl) ?_)
  refine wpAny_bind (wpAny_attempt (wpAny_holding ?_))
  show wpAny _ _ (bindSpecial (.builtin "super.__getattribute__") (.ref so) >>= _) _ _ _
  refine wpAny_bind (wpAny_of_eq (PySem.F.ks_slot_super_ga.bind _) ?_)
  refine wpAny_mono (Q := fun v s' => v = .ref h.objs.size ∧ s' = ⟨h.push (mwObj e), g, d, t + 1, os⟩) (E := fun _ _ => False)
    (wpAny_call_entry PySem.F.ks_slot_super_ga (hT _) PySem.F.ks_entry_super_ga (sg_run (by decide) (by kernel_rfl) X I hso hno ⟨_, rfl, rfl, rfl⟩) (PySem.F.ks_gaArgs_super _ _)) (fun v s' hv => ?_) fun _ _ z => z.elim
  obtain ⟨rfl, rfl⟩ := hv
  exact wpAny_pure (wpAny_pure hq)
/-- BaseException.__init__ -/
theorem init_run {what : Value} {Q : PySem.Fin → Shared → Prop} {t0 : Addr} (he : h.get? e = some o) (hd : o.data = .fields #[.ref t0, .none, .none, .none, .bool false, .none])
    (hq : ∀ h' t1, (∀ b ob, b ≠ e → h.get? b = some ob → h'.get? b = some ob) → h'.get? e = some { o with data := .fields #[.ref t1, .none, .none, .none, .bool false, .none] } → Q (.done (.ret .none)) ⟨h', g, d, t, os⟩) :
    wpAny (model Prog w) A (Builtin.«BaseException.__init__» ⟨[.ref e, what], []⟩) Q E ⟨h, g, d, t, os⟩ := by
  unfold Builtin.«BaseException.__init__»
  repeat (first | wp_step | dsimp only)
  rw [hd]
  have he₁ := Heap.get?_push_of_some (h := h) (tup [what]) he
  repeat (first | (with_reducible refine wpAny_setField he₁ hd (by decide) ?_) | wp_step | dsimp only)
  rw [hd]
  dsimp only
  rw [if_pos (by show 0 < 6; decide)]
  refine wpAny_update' he₁ ?_
  show wpAny _ _ (letGo [.ref t0]) _ _ _
  repeat (first | wp_step | dsimp only)
  have hf : ({ o with data := .fields #[.ref h.objs.size, .none, .none, .none, .bool false, .none] } : Obj) = o.mapFields fun x => x.setIfInBounds 0 (Value.ref h.objs.size) := by
    obtain ⟨oc, od, oda, osl⟩ := o
    dsimp only at hd
    subst hd
    rfl
  refine hq _ h.objs.size (fun b ob hb hbo => ?_) ?_
  · rw [Heap.get?_update_other _ _ (Ne.symm hb)]
    exact Heap.get?_push_of_some _ hbo
  · rw [hf]
    exact Heap.get?_update_self _ he₁ (Obj.isFreed_of_fields (Obj.data_mapFields hd _))
theorem call_mw {q : Addr} {what : Value} {Q : Value → Shared → Prop} {t0 : Addr} (X : (Mine.hd.heap_1 w.params).In h) {od : Option Obj} (I : InstAt h e o 76 od) (hd : o.data = .fields #[.ref t0, .none, .none, .none, .bool false, .none]) (hqo : h.get? q = some (mwObj e))
    (hq : ∀ h' t1, (∀ b ob, b ≠ e → h.get? b = some ob → h'.get? b = some ob) → h'.get? e = some { o with data := .fields #[.ref t1, .none, .none, .none, .bool false, .none] } → Q .none ⟨h', g, d, t, os⟩) :
    wpAny (model Prog w) A (call (.ref q) [what]) Q E ⟨h, g, d, t, os⟩ := by
  refine wpAny_call (codeAny_of_tree ?_)
  show wpAny _ A.in1 (callAny (.ref q) ⟨[what], []⟩) _ _ _
  simp only [callAny]
  refine wpAny_bind (wpAny_load hqo ?_)
  dsimp only
  rw [if_pos (by decide)]
  have e0 : (#[Value.builtin "Exception.__init__", Value.ref e] : Array Value)[0]? = some (Value.builtin "Exception.__init__") := rfl
  have e1 : (#[Value.builtin "Exception.__init__", Value.ref e] : Array Value)[1]? = some (Value.ref e) := rfl
  rw [e0, e1]
  dsimp only
  rw [if_pos (by decide)]
  have F := PySem.F.excBase_Exception
  have hshort := F.noStar
  unfold checkBoundCall
  simp only [F.initRow, F.initKind]
  have hC := X 76 _ rfl
  have he := I.at_
  have hcls := I.cls
  refine wpAny_bind ?_
  repeat (first | (with_reducible refine wpAny_loadPart_at he ?_; rw [hcls]) | with_reducible refine wpAny_loadPart_at hC ?_ | wp_step)
  refine ⟨Code.quiet_builtin _ (by decide +kernel), codeAny_builtin PySem.F.excBase_Exception.initEntry (init_run I.at_ hd ?_)⟩
  intro h' t1 k1 k2
  exact hq h' t1 k1 k2
end
-- ExcC
theorem top_ExcC : True := by
  w_top off
  trivial
section
variable {w : World} {mean : ExcName → Option Value} {mg mb : Str → Option Value} {A₀ A : Around} {s : Shared} {base h₀ : Heap} {outer : List Env} {L : Addr} {m : Str → Option Value} {env : Env} {own rest : List (Addr × Obj)} {R : Result → Shared → Prop}
/-- into a def that closes over its class -/
theorem enterS {name qual : Str} {params : Arguments} {body : List Stmt} {scope : Scope} {dV kV doc pm cdv ct oc : Value} {an od : Option Addr} {osl : Array (Option Value)} {f cc : Addr} {vals : List Value}
    (G : Amb w mean mg mb A₀ base h₀ outer) (F : Fr h₀ L s.heap m) (N : News h₀ L s.heap (own ++ rest)) (hsep : ∀ p ∈ own, ∀ q ∈ rest, p.1 ≠ q.1)
    (hA : A.frames = some (env :: outer)) (hf : env.frame = some L) (hke : env.scope.kind = .function)
    (ho : (Mine.hd.heap_1 w.params).lookup f = some ⟨oc, od, .func (ksFn name qual params body scope dV kV doc pm an cdv ct cc), osl⟩) (hcd : codeIn (Mine.hd.heap_1 w.params) cdv qual = true) (hroom : A.depth < recursionLimit)
    (hbind : BindsTo s (ksFn name qual params body scope dV kV doc pm an cdv ct cc) ⟨vals, []⟩ ((params.args.map (·.arg)).zip vals)) (hloc : ∀ y ∈ (params.args.map (·.arg)).zip vals, scope.names.lookup y.1 = some .local)
    (h : ∀ g L' h₁ tk, Fr h₀ L g m → Fr g L' h₁ (fun y => ((params.args.map (·.arg)).zip vals).reverse.lookup y) → News g L' h₁ own → Amb w mean mg mb A base g (env :: outer) → (∀ b o, s.heap.get? b = some o → b ∉ own.map (·.1) → g.get? b = some o) → (∀ p ∈ own, p.1 < L') →
      _root_.PySem.wpAt (model Prog w) (A.deeper (ksEnv qual scope L' f cdv cc)) (.func body (ksEnv qual scope L' f cdv cc)) (execs body (ksEnv qual scope L' f cdv cc))
        (fun fl s' => LeaveF h₀ L m g rest R (match fl with | .ret v => v | _ => .none) s')
        (fun e s' => wpAny (model Prog w) (A.deeper (ksEnv qual scope L' f cdv cc)) (leaving (ksEnv qual scope L' f cdv cc) e) (fun _ s'' => R (.error e) s'') (fun e' s'' => R (.error e') s'') s')
        { s with heap := h₁, toks := tk })
    (hcell : ∀ x ∈ scope.names, x.2 ≠ .cell) (hco : scope.isCoroutine = false := by rfl) (hgen : scope.isGenerator = false := by rfl) (hk : scope.kind = .function := by rfl) : codeAny (model Prog w) A (.call (.ref f) ⟨vals, []⟩) R s := by
  obtain ⟨g, hg, FG, GG, up, st, lv⟩ := ground (R := R) G F N hsep hA hf hke
  have X := G.X.keeps F.keep
  have No : News h₀ L s.heap own := fun p hp => N p (List.mem_append_left _ hp)
  refine ks_codeAny_call_defAt (fd := ksFn name qual params body scope dV kV doc pm an cdv ct cc) (body := body) hroom (X _ _ ho) rfl (G.T.nolimit.keeps F.keep) (codeRec_of X hcd) rfl hbind hcell hloc (fun h₁ hns hk₁ => ?_) hco hgen hk
  exact ks_wpAt_mono (h g s.heap.objs.size h₁ _ FG ⟨hns, fun b o e => hk₁ b o (up b o e), by rw [hg]; exact Nat.le_of_eq (hideAll_size _ _)⟩
    (fun p hp => ⟨hk₁ _ _ (No p hp).1, Nat.ne_of_lt (Heap.lt_size (No p hp).1), by rw [hg]; exact hideAll_none _ (List.mem_map_of_mem hp)⟩) GG st (fun p hp => Heap.lt_size (No p hp).1)) (fun fl s' hl => lv _ _ hl) fun _ _ y => y
end
/-- an object of the dict kind that says mA -/
def NsObj (o : Obj) (mA : Str → Option Value) : Prop := ∀ (h : Heap) (d : Addr), h.get? d = some o → h.Ns1 d mA
/-- the ledger of an exception that is being made -/
def XOwn (e : Addr) (mA : Str → Option Value) (own : List (Addr × Obj)) : Prop :=
  ∃ o t, o.cls = .ref 76 ∧ o.data = .fields #[.ref t, .none, .none, .none, .bool false, .none] ∧ ((own = [(e, o)] ∧ o.dict = none ∧ ∀ n, mA n = none) ∨ ∃ d oD, own = [(e, o), (d, oD)] ∧ o.dict = some d ∧ d ≠ e ∧ NsObj oD mA)
theorem XOwn.inst {e : Addr} {mA : Str → Option Value} {own rest : List (Addr × Obj)} {h₀ h : Heap} {L : Addr} (X : XOwn e mA own) (N : News h₀ L h (own ++ rest)) : h.Inst e 76 mA := by
  obtain ⟨o, t, hc, hd, ⟨rfl, h1, h2⟩ | ⟨d, oD, rfl, h1, h2, h3⟩⟩ := X
  · exact ⟨o, (N _ (.head _)).1, hc, (fun c q => by rw [hd] at q; cases q), .inl ⟨h1, h2⟩⟩
  · exact ⟨o, (N _ (.head _)).1, hc, (fun c q => by rw [hd] at q; cases q), .inr ⟨d, h1, h2, h3 _ _ (N _ (.tail _ (.head _))).1⟩⟩
theorem XOwn.full {e : Addr} {mA : Str → Option Value} {own rest : List (Addr × Obj)} {h₀ h : Heap} {L : Addr} (X : XOwn e mA own) (N : News h₀ L h (own ++ rest)) : ∃ o t0 od, InstAt h e o 76 od ∧ o.data = .fields #[.ref t0, .none, .none, .none, .bool false, .none] := by
  obtain ⟨o, od, I⟩ := inst_at (X.inst N)
  obtain ⟨o', t, hc, hd, ⟨rfl, h1, h2⟩ | ⟨d, oD, rfl, h1, h2, h3⟩⟩ := X
  · obtain rfl : o = o' := Option.some.inj (I.at_.symm.trans (N _ (.head _)).1)
    exact ⟨o, t, od, I, hd⟩
  · obtain rfl : o = o' := Option.some.inj (I.at_.symm.trans (N _ (.head _)).1)
    exact ⟨o, t, od, I, hd⟩
theorem xchange {h₀ h h' : Heap} {L e : Addr} {m mA : Str → Option Value} {own rest : List (Addr × Obj)} (F : Fr h₀ L h m) (N : News h₀ L h (own ++ rest)) (X : XOwn e mA own) (hsep : ∀ p ∈ own, ∀ q ∈ rest, p.1 ≠ q.1)
    (k1 : ∀ b ob, b ≠ e → h.get? b = some ob → h'.get? b = some ob) (k2 : ∀ o, h.get? e = some o → ∃ t1, h'.get? e = some { o with data := .fields #[.ref t1, .none, .none, .none, .bool false, .none] }) :
    ∃ own', XOwn e mA own' ∧ Fr h₀ L h' m ∧ News h₀ L h' (own' ++ rest) ∧ ∀ p ∈ own', ∀ q ∈ rest, p.1 ≠ q.1 := by
  have he : ∃ o, (e, o) ∈ own := by
    obtain ⟨o, t, _, _, ⟨rfl, _⟩ | ⟨d, oD, rfl, _⟩⟩ := X
    · exact ⟨o, .head _⟩
    · exact ⟨o, .head _⟩
  obtain ⟨o1, ho1⟩ := he
  have ne := N _ (List.mem_append_left _ ho1)
  have F' : Fr h₀ L h' m := ⟨F.ns.at' fun o q => k1 _ _ (fun z => ne.2.1 z.symm) q, fun b o q => k1 b o (fun z => by rw [z, ne.2.2] at q; cases q) (F.keep b o q), F.above⟩
  have Nr : ∀ p ∈ rest, h'.get? p.1 = some p.2 ∧ p.1 ≠ L ∧ h₀.get? p.1 = none := fun p hp => by
    have z := N p (List.mem_append_right _ hp)
    exact ⟨k1 _ _ (fun q => hsep _ ho1 p hp q.symm) z.1, z.2⟩
  obtain ⟨o, t, hc, hd, ⟨rfl, h1, h2⟩ | ⟨d, oD, rfl, h1, h2, h3⟩⟩ := X
  · obtain ⟨t1, ht1⟩ := k2 o (N _ (.head _)).1
    refine ⟨[(e, { o with data := .fields #[.ref t1, .none, .none, .none, .bool false, .none] })], ⟨{ o with data := .fields #[.ref t1, .none, .none, .none, .bool false, .none] }, t1, hc, rfl, .inl ⟨rfl, h1, h2⟩⟩, F', fun p hp => ?_, fun p hp q hq => by rw [List.mem_singleton.mp hp]; exact hsep _ (.head _) q hq⟩
    rcases List.mem_cons.mp hp with rfl | hp
    · exact ⟨ht1, (N _ (.head _)).2⟩
    · exact Nr p hp
  · obtain ⟨t1, ht1⟩ := k2 o (N _ (.head _)).1
    refine ⟨[(e, { o with data := .fields #[.ref t1, .none, .none, .none, .bool false, .none] }), (d, oD)], ⟨{ o with data := .fields #[.ref t1, .none, .none, .none, .bool false, .none] }, t1, hc, rfl, .inr ⟨d, oD, rfl, h1, h2, h3⟩⟩, F', fun p hp => ?_, fun p hp q hq => ?_⟩
    · rcases List.mem_cons.mp hp with rfl | hp
      · exact ⟨ht1, (N _ (.head _)).2⟩
      · rcases List.mem_cons.mp hp with rfl | hp
        · have z := N _ (.tail _ (.head _))
          exact ⟨k1 _ _ h2 z.1, z.2⟩
        · exact Nr p hp
    · rcases List.mem_cons.mp hp with rfl | hp
      · exact hsep _ (.head _) q hq
      · rw [List.mem_singleton.mp hp]; exact hsep _ (.tail _ (.head _)) q hq
theorem nsObj_of {h : Heap} {d : Addr} {mA : Str → Option Value} (n : h.Ns1 d mA) : ∃ oD, h.get? d = some oD ∧ NsObj oD mA := by
  obtain ⟨o, es, ep, h1, r⟩ := n
  exact ⟨o, h1, fun h' d' h2 => ⟨o, es, ep, h2, r⟩⟩
theorem xstore {w : World} {A : Around} {E : Value → Shared → Prop} {s : Shared} {h₀ : Heap} {L e : Addr} {m mA : Str → Option Value} {own rest : List (Addr × Obj)} {name : Str} {v : Value} {Q : Unit → Shared → Prop} {ns : List Str} (X₀ : (Mine.hd.heap_1 w.params).In h₀) (hname : findIn (Mine.hd.heap_1 w.params) (.ref 76) name = some none) (hw : Within mA ns) (hsz : ns.length ≤ 100)
    (F : Fr h₀ L s.heap m) (N : News h₀ L s.heap (own ++ rest)) (X : XOwn e mA own) (hsep : ∀ p ∈ own, ∀ q ∈ rest, p.1 ≠ q.1)
    (k : ∀ own' h' tk, XOwn e (fun y => if y = name then some v else mA y) own' → Fr h₀ L h' m → News h₀ L h' (own' ++ rest) → (∀ p ∈ own', ∀ q ∈ rest, p.1 ≠ q.1) → Q () { s with heap := h', toks := tk }) :
    wpAny (model Prog w) A (setAttr (.ref e) name v) Q E s := by
  obtain ⟨h, g, d, t, os⟩ := s
  have I := X.inst N
  refine exc_store (X₀.keeps F.keep) hname I hw hsz fun h' tk' I' k1 k2 => ?_
  have hL := F.ns
  obtain ⟨oL, _, _, hoL, _⟩ := id hL
  dsimp only at hoL
  obtain ⟨o', ho', hc', hnc', hd'⟩ := I'
  rcases hd' with ⟨_, hall⟩ | ⟨dx, hdx, hdne, hns⟩
  · have := hall name; simp at this
  obtain ⟨oD', hoD', hN'⟩ := nsObj_of hns
  have fin : ∀ (o : Obj) (t0 : Addr), (e, o) ∈ own → h.get? e = some o → o.data = .fields #[.ref t0, .none, .none, .none, .bool false, .none] → (∀ b ob, b ≠ e → b ≠ dx → h.get? b = some ob → h'.get? b = some ob) → ((dx, ()) ∈ own.map (fun p => (p.1, ())) ∨ h.get? dx = none) → Q () ⟨h', g, d, tk', os⟩ := by
    intro o t0 hm ho hd hk hin
    obtain ⟨o₁, ho₁, e1, e2, _⟩ := k2 o ho
    obtain rfl : o' = o₁ := Option.some.inj (ho'.symm.trans ho₁)
    have ne := N _ (List.mem_append_left _ hm)
    have ndx : dx ≠ L ∧ h₀.get? dx = none := by
      rcases hin with hin | hin
      · obtain ⟨p, hp, q⟩ := List.mem_map.mp hin
        have q : p.1 = dx := congrArg Prod.fst q
        have z := (N p (List.mem_append_left _ hp)).2
        rw [q] at z; exact z
      · refine ⟨(fun q => by rw [q, hoL] at hin; cases hin), ?_⟩
        cases z : h₀.get? dx with
        | none => rfl
        | some o => have := F.keep _ _ z; dsimp only at this; rw [hin] at this; cases this
    have hsdx : ∀ q ∈ rest, dx ≠ q.1 := fun q hq z => by
      rcases hin with hin | hin
      · obtain ⟨p, hp, y⟩ := List.mem_map.mp hin
        have y : p.1 = dx := congrArg Prod.fst y
        exact hsep p hp q hq (y.trans z)
      · have := (N q (List.mem_append_right _ hq)).1
        dsimp only at this
        rw [← z, hin] at this; cases this
    refine k [(e, o'), (dx, oD')] h' tk' ⟨o', t0, hc', by rw [e1, hd], .inr ⟨dx, oD', rfl, hdx, hdne, hN'⟩⟩ ⟨F.ns.at' fun o q => hk _ _ (fun z => ne.2.1 z.symm) (fun z => ndx.1 z.symm) q, fun b o q => hk b o (fun z => by rw [z, ne.2.2] at q; cases q) (fun z => by rw [z, ndx.2] at q; cases q) (F.keep b o q), F.above⟩ (fun p hp => ?_) fun p hp q hq => ?_
    · rcases List.mem_cons.mp hp with rfl | hp
      · exact ⟨ho', ne.2⟩
      · rcases List.mem_cons.mp hp with rfl | hp
        · exact ⟨hoD', ndx⟩
        · have z := N p (List.mem_append_right _ hp)
          exact ⟨hk _ _ (fun y => hsep _ hm p hp y.symm) (fun y => hsdx p hp y.symm) z.1, z.2⟩
    · rcases List.mem_cons.mp hp with rfl | hp
      · exact hsep _ hm q hq
      · rw [List.mem_singleton.mp hp]; exact hsdx q hq
  obtain ⟨o, t0, hc, hd, ⟨rfl, h1, h2⟩ | ⟨d0, oD, rfl, h1, h2, h3⟩⟩ := X
  · have ho : h.get? e = some o := (N _ (.head _)).1
    obtain ⟨o₁, ho₁, _, _, dx', e3, e4⟩ := k2 o ho
    obtain rfl : o' = o₁ := Option.some.inj (ho'.symm.trans ho₁)
    rw [hdx] at e3
    obtain rfl : dx = dx' := Option.some.inj e3
    refine fin o t0 (.head _) ho hd (fun b ob hb _ hbo => k1 b ob hb (fun o₀ d₀ q1 q2 => ?_) hbo) (.inr ?_)
    · rw [ho] at q1; rw [← Option.some.inj q1, h1] at q2; cases q2
    · rcases e4 with e4 | e4
      · rw [h1] at e4; cases e4
      · exact e4.2
  · have ho : h.get? e = some o := (N _ (.head _)).1
    obtain ⟨o₁, ho₁, _, _, dx', e3, e4⟩ := k2 o ho
    obtain rfl : o' = o₁ := Option.some.inj (ho'.symm.trans ho₁)
    rw [hdx] at e3
    obtain rfl : dx = dx' := Option.some.inj e3
    have ed : d0 = dx := by
      rcases e4 with e4 | e4
      · rw [h1] at e4; exact Option.some.inj e4
      · rw [h1] at e4; cases e4.1
    subst ed
    refine fin o t0 (.head _) ho hd (fun b ob hb hbd hbo => k1 b ob hb (fun o₀ d₀ q1 q2 => ?_) hbo) (.inl (.tail _ (.head _)))
    rw [ho] at q1; rw [← Option.some.inj q1, h1] at q2; exact fun z => hbd (z.trans (Option.some.inj q2).symm)
theorem callWith_mf {M : Model} {A : Around} {E : Value → Shared → Prop} {s : Shared} {pos : Pos} {u e : Addr} {args : List (Bool × Sem Value)} {Q : Value → Shared → Prop} (hplain : args.any (·.1) = false)
    (h : wpAny M A (evalArgs (.ref u) true args []) (fun x s₁ => s₁.heap.get? u = some (mwObj e) ∧ wpAny M A (call (.ref u) ([] ++ x.pos) x.kw) Q E s₁) E s) : wpAny M A (callWith pos (.ref u) [] args []) Q E s := by
  unfold callWith
  refine wpAny_bind (wpAny_holding (wpAny_mono h (fun x s₁ h₁ => wpAny_bind (wpAny_standAt ?_)) fun _ _ x => x))
  obtain ⟨ho, hcall⟩ := h₁
  simp only [hplain, List.any_nil, Bool.or_false]
  refine wpAny_bind (m := keeperOf (.ref u)) ?_
  unfold keeperOf
  refine wpAny_bind (wpAny_load ho ?_)
  simp only [show (Value.type "method-wrapper" != Value.type "method") = true by decide, show (Value.type "method-wrapper" == Value.type "builtin_function_or_method" || Value.type "method-wrapper" == Value.type "method-wrapper") = true by decide, if_true]
  refine wpAny_pure ?_
  exact wpAny_bind (wpAny_mono hcall (fun r s₂ hr => wpAny_bind (wpAny_holding (wpAny_point (wpAny_pure hr)))) fun _ _ x => x)
theorem callWith_mw {M : Model} {A : Around} {E : Value → Shared → Prop} {s : Shared} {pos : Pos} {u e : Addr} {env : Env} {ex : Expr} {rest : List Expr} {Q : Value → Shared → Prop}
    (h : wpAny M A (spliced (backTo pos (starEach (ex :: rest) env))) (fun vs s₁ => s₁.heap.get? u = some (mwObj e) ∧ wpAny M A (call (.ref u) ([] ++ vs)) Q E s₁) E s)
    (he : starEach (ex :: rest) env = (false, eval ex env) :: starEach rest env := by rfl) (hplain : (backTo pos (starEach rest env)).any (·.1) = false := by rfl) :
    wpAny M A (callWith pos (.ref u) [] (backTo pos (starEach (ex :: rest) env)) []) Q E s := by
  rw [he] at h ⊢
  refine callWith_mf (e := e) (by show (false || (backTo pos (starEach rest env)).any (·.1)) = false; rw [hplain]; rfl) ?_
  exact evalArgs_plain h
theorem init_f {w : World} {e : Addr} {what : Value} {own : List (Addr × Obj)} (hX : XOwn e (fun _ => none) own) :
    ∀ (mean : ExcName → Option Value) (mg mb : Str → Option Value) (dp un : Nat) (gd : Option (List Code)) (cn : Str) (cs : Scope) (a : Addr) (ccd : Value) (cl : List (Str × Addr)) (outer : List Env) (A₀ : Around) (base h₀ : Heap) (L : Addr) (m : Str → Option Value)
      (rest : List (Addr × Obj)) (s : Shared) (R : Result → Shared → Prop),
      Amb w mean mg mb A₀ base h₀ outer → cs.kind = .function → Fr h₀ L s.heap m → News h₀ L s.heap (own ++ rest) → (∀ p ∈ own, ∀ q ∈ rest, p.1 ≠ q.1) → dp + 4 < recursionLimit → un + 40 < cLine →
      (∀ own' h' tk, XOwn e (fun y => if y = Str.ofString "what" then some what else none) own' → Fr h₀ L h' m → News h₀ L h' (own' ++ rest) → (∀ p ∈ own', ∀ q ∈ rest, p.1 ≠ q.1) → R (.ok (.ret .none)) { s with heap := h', toks := tk }) →
      codeAny (model Prog w) (ktrTop dp un gd cn cs L a ccd cl outer) (.call (.ref 37) ⟨[.ref e, what], []⟩) R s := by
  intro mean mg mb dp un gd cn cs a ccd cl outer A₀ base h₀ L m rest s R G hk F N hsep hd hu hret
  k_dflt (refine' enterS ?k1 ?k2 ?k3 ?k4 ?kA ?kF ?kK ?k6 ?k7 ?k8 ?k9 ?kB ?_ ?c5 ?c2 ?c3 ?c4; (case kA => exact rfl); (case kF => exact rfl); (case kK => assumption); (case k1 => assumption); (case k2 => assumption); (case k3 => assumption); (case k4 => assumption); (case k6 => k_is); (case k7 => k_is); (case k8 => (show _ < recursionLimit; dsimp only [ktrTop]; omega)); (case k9 => exact BindsTo.of_eq rfl); (case c5 => decide); (case kB => exact locs rfl); (case c2 => exact rfl); (case c3 => exact rfl); (case c4 => exact rfl); k_whole)
  simp only [List.map_cons, List.map_nil, List.zip_cons_cons, List.zip_nil_right, List.zip_nil_left, List.reverse_cons, List.reverse_nil, List.nil_append, List.cons_append]
  intro g L' h₁ tk₁ FG F' N' G' st lt
  clear F N G st hsep
  have ⟨B', X', T'⟩ := G'
  try dsimp only
  try k_fold
  walk_at "MINE go"
  obtain ⟨o, od, IA⟩ := inst_at (hX.inst (rest := []) (by rw [List.append_nil]; exact N'))
  k_dflt (refine ks_node (by k_asm) (by k_asm) (by k_asm) (by k_asm) (by k_is) (by rfl) (by rfl) IA (by k_is) (by rfl) (by first | rfl | decide +kernel) (by k_is) (by k_is) (by k_is) (by k_is) (by decide) (by rfl) (by rfl) (by rfl) (by rfl) (by decide +kernel) (by first | boot_by_name | rfl | kernel_rfl) ?_; intro so h₂ F₂ N₂ l2)
  have N₂' : News g L' h₂ (own ++ [(so, ks_superObj 47 e 76)]) := fun p hp => N₂ p (by
    rcases List.mem_append.mp hp with hp | hp
    · exact .tail _ hp
    · rw [List.mem_singleton.mp hp]; exact .head _)
  obtain ⟨o₂, od₂, IA₂⟩ := inst_at (hX.inst N₂')
  refine super_m (h := h₂) (G'.X.keeps F₂.keep) IA₂ (N₂ _ (.head _)).1 ?_
  have F₃ := F₂.push (mwObj e)
  have N₃ := News.push F₂ N₂' (mwObj e)
  have l3 : ∀ p ∈ own ++ [(so, ks_superObj 47 e 76)], @LT.lt Nat _ p.1 h₂.objs.size := fun p hp => Heap.lt_size (N₂' p hp).1
  generalize h₂.objs.size = q at N₃ l3 ⊢
  generalize h₂.push (mwObj e) = h₃ at F₃ N₃ ⊢
  clear F' N' F₂ N₂ N₂' IA IA₂
  dsimp only
  refine callWith_mw (e := e) ?_
  walk_at "MINE go"
  · exact (N₃ _ (.head _)).1
  have N₃' : News g L' h₃ (own ++ [(so, ks_superObj 47 e 76), (q, mwObj e)]) := fun p hp => N₃ p (by
    rcases List.mem_append.mp hp with hp | hp
    · exact .tail _ (List.mem_append_left _ hp)
    · rcases List.mem_cons.mp hp with rfl | hp
      · exact .tail _ (List.mem_append_right _ (.head _))
      · rw [List.mem_singleton.mp hp]; exact .head _)
  have sp : ∀ p ∈ own, ∀ q' ∈ [(so, ks_superObj 47 e 76), (q, mwObj e)], p.1 ≠ q'.1 := fun p hp q' hq' => by
    rcases List.mem_cons.mp hq' with rfl | hq'
    · exact Nat.ne_of_lt (l2 p hp)
    · rw [List.mem_singleton.mp hq']; exact Nat.ne_of_lt (l3 p (List.mem_append_left _ hp))
  obtain ⟨o₃, t0, od₃, I₃, d₃⟩ := hX.full N₃'
  refine call_mw (h := h₃) (G'.X.keeps F₃.keep) I₃ d₃ (N₃ _ (.head _)).1 fun h₄ t1 k1 k2 => ?_
  obtain ⟨own₂, hX₂, F₄, N₄, S₄⟩ := xchange F₃ N₃' hX sp k1 (fun o ho => by rw [I₃.at_] at ho; rw [← Option.some.inj ho]; exact ⟨t1, k2⟩)
  clear F₃ N₃ N₃' I₃
  try dsimp only
  walk_at "MINE go"
  refine xstore (ns := []) G'.X (by k_is) Within.nil (by decide) F₄ N₄ hX₂ S₄ fun own₃ h₅ tk₅ hX₃ F₅ N₅ S₅ => ?_
  try dsimp only
  walk_at "MINE go"
  try dsimp only
  refine leaveF F₅ (news_pre N₅) ?_
  intro F9 N9 S9
  exact hret _ _ _ hX₃ F9 N9 S9
/-- ProofFault.__init__ -/
theorem init_p {w : World} {e : Addr} {what step : Value} {own : List (Addr × Obj)} (hX : XOwn e (fun _ => none) own) :
    ∀ (mean : ExcName → Option Value) (mg mb : Str → Option Value) (dp un : Nat) (gd : Option (List Code)) (cn : Str) (cs : Scope) (a : Addr) (ccd : Value) (cl : List (Str × Addr)) (outer : List Env) (A₀ : Around) (base h₀ : Heap) (L : Addr) (m : Str → Option Value)
      (rest : List (Addr × Obj)) (s : Shared) (R : Result → Shared → Prop),
      Amb w mean mg mb A₀ base h₀ outer → cs.kind = .function → Fr h₀ L s.heap m → News h₀ L s.heap (own ++ rest) → (∀ p ∈ own, ∀ q ∈ rest, p.1 ≠ q.1) → dp + 8 < recursionLimit → un + 80 < cLine →
      (∀ own' h' tk, XOwn e (fun y => if y = Str.ofString "step" then some step else if y = Str.ofString "what" then some what else none) own' → Fr h₀ L h' m → News h₀ L h' (own' ++ rest) → (∀ p ∈ own', ∀ q ∈ rest, p.1 ≠ q.1) → R (.ok (.ret .none)) { s with heap := h', toks := tk }) →
      codeAny (model Prog w) ((ktrTop dp un gd cn cs L a ccd cl outer).under (.builtin "type.__call__" ⟨[.ref 76, what, step], []⟩)) (.call (.ref 66) ⟨[.ref e, what, step], []⟩) R s := by
  intro mean mg mb dp un gd cn cs a ccd cl outer A₀ base h₀ L m rest s R G hk F N hsep hd hu hret
  k_dflt (refine' enterS ?k1 ?k2 ?k3 ?k4 ?kA ?kF ?kK ?k6 ?k7 ?k8 ?k9 ?kB ?_ ?c5 ?c2 ?c3 ?c4; (case kA => exact rfl); (case kF => exact rfl); (case kK => assumption); (case k1 => assumption); (case k2 => assumption); (case k3 => assumption); (case k4 => assumption); (case k6 => k_is); (case k7 => k_is); (case k8 => (simp only [depth_under_kw]; show dp + 1 < recursionLimit; omega)); (case k9 => exact BindsTo.of_eq rfl); (case c5 => decide); (case kB => exact locs rfl); (case c2 => exact rfl); (case c3 => exact rfl); (case c4 => exact rfl); k_whole)
  simp only [List.map_cons, List.map_nil, List.zip_cons_cons, List.zip_nil_right, List.reverse_cons, List.reverse_nil, List.nil_append, List.cons_append]
  intro g L' h₁ tk₁ FG F' N' G' st lt
  clear F N G st hsep
  have ⟨B', X', T'⟩ := G'
  try dsimp only
  try k_fold
  refine ks_wpAt_execs_cons ?_
  refine ks_wpAt_Expr_any ?_
  refine ks_wpAt_MethodCall ?_
  obtain ⟨o, od, IA⟩ := inst_at (hX.inst (rest := []) (by rw [List.append_nil]; exact N'))
  k_dflt (refine ks_node (by k_asm) (by k_asm) (by k_asm) (by k_asm) (by k_is) (by rfl) (by rfl) IA (by k_is) (by rfl) (by first | rfl | decide +kernel) (by k_is) (by k_is) (by k_is) (by k_is) (by decide) (by rfl) (by rfl) (by rfl) (by rfl) (by decide +kernel) (by first | boot_by_name | rfl | kernel_rfl) ?_; intro so h₂ F₂ N₂ l2)
  have N₂' : News g L' h₂ (own ++ [(so, ks_superObj 76 e 76)]) := fun p hp => N₂ p (by
    rcases List.mem_append.mp hp with hp | hp
    · exact .tail _ hp
    · rw [List.mem_singleton.mp hp]; exact .head _)
  obtain ⟨o₂, od₂, IA₂⟩ := inst_at (hX.inst N₂')
  k_dflt (refine ks_method (so := so) F₂ G'.X N₂ (.head _) IA₂ (by k_is) (by ks_is) (by k_is) (by decide) ?_)
  intro q h₃ F₃ N₃ l3
  clear F' N' F₂ N₂' IA IA₂
  dsimp only
  walk_at "MINE go"
  have N₃' : News g L' h₃ (own ++ [(so, ks_superObj 76 e 76), (q, methodObj (.ref 37) (.ref e))]) := fun p hp => N₃ p (by
    rcases List.mem_append.mp hp with hp | hp
    · exact .tail _ (.tail _ hp)
    · rcases List.mem_cons.mp hp with rfl | hp
      · exact .tail _ (.head _)
      · rw [List.mem_singleton.mp hp]; exact .head _)
  have sp : ∀ p ∈ own, ∀ q' ∈ [(so, ks_superObj 76 e 76), (q, methodObj (.ref 37) (.ref e))], p.1 ≠ q'.1 := fun p hp q' hq' => by
    rcases List.mem_cons.mp hq' with rfl | hq'
    · exact Nat.ne_of_lt (l2 p hp)
    · rw [List.mem_singleton.mp hq']; exact Nat.ne_of_lt (l3 p (.tail _ hp))
  refine call_meth N₃ (.head _) ?_
  refine init_f hX _ _ _ _ _ _ _ _ _ _ _ _ _ _ _ _ _ _ _ _ G' rfl F₃ N₃' sp (by show dp + 1 + 1 + 4 < recursionLimit; omega) (by (simp only [units_under_make]); (try dsimp only [Around.deeper, ktrTop]); omega) ?_
  intro own₂ h₄ tk₄ hX₂ F₄ N₄ S₄
  clear F₃ N₃ N₃' N₂
  try dsimp only
  walk_at "MINE go"
  refine xstore (ns := [Str.ofString "what"]) G'.X (by k_is) (Within.cons _ _ Within.nil) (by decide) F₄ N₄ hX₂ S₄ fun own₃ h₅ tk₅ hX₃ F₅ N₅ S₅ => ?_
  try dsimp only
  walk_at "MINE go"
  try dsimp only
  refine leaveF F₅ (news_pre N₅) ?_
  intro F9 N9 S9
  exact hret _ _ _ hX₃ F9 N9 S9
-- ExcE
theorem top_ExcE : True := by
  w_top off
  trivial
def faultMap (what step : Value) : Str → Option Value := fun y => if y = Str.ofString "step" then some step else if y = Str.ofString "what" then some what else none
theorem newFault {w : World} {what step : Value} : DoesK w 76 [what, step] [] 10 (fun v own => ∃ e, v = .ref e ∧ XOwn e (faultMap what step) own) := by
  intro mean mg mb dp un gd cn cs a ccd cl outer A₀ base h₀ L m rest s Q E G hk F N himm hd hu hret
  obtain ⟨h, g, d, t, os⟩ := s
  refine wpAny_call (exc_make (G.X.keeps F.keep) (by rw [sizeLine_eq]; show 2 ≤ _; decide) ?_)
  have F₁ := F.push (tup [what, step])
  have N₁ := News.push F N (tup [what, step])
  have F₂ := F₁.push (xObj h.objs.size none)
  have N₂ := News.push F₁ N₁ (xObj h.objs.size none)
  have hsz : (h.push (tup [what, step])).objs.size = h.objs.size + 1 := Heap.size_push ..
  rw [hsz] at N₂
  have hX : XOwn (h.objs.size + 1) (fun _ => none) [(h.objs.size + 1, xObj h.objs.size none)] := ⟨_, _, rfl, rfl, .inl ⟨rfl, rfl, fun _ => rfl⟩⟩
  have hlt : ∀ q ∈ (h.objs.size, tup [what, step]) :: rest, @LT.lt Nat _ q.1 (h.objs.size + 1) := fun q hq => by
    rcases List.mem_cons.mp hq with rfl | hq
    · exact Nat.lt_succ_self _
    · exact Nat.lt_succ_of_lt (Heap.lt_size (N q hq).1)
  refine init_p hX _ _ _ dp un gd cn cs a ccd cl outer A₀ base h₀ L m ((h.objs.size, tup [what, step]) :: rest) ⟨(h.push (tup [what, step])).push (xObj h.objs.size none), g, d, t, os⟩ _ G hk F₂ N₂ (fun p hp q hq => by rw [List.mem_singleton.mp hp]; exact Nat.ne_of_gt (hlt q hq)) (by omega) (by omega) ?_
  intro own' h' tk hX' F' N' S'
  refine ⟨rfl, ?_⟩
  exact hret _ own' h' tk ⟨_, rfl, hX'⟩ F' (fun p hp => N' p (by
    rcases List.mem_append.mp hp with hp | hp
    · exact List.mem_append_left _ hp
    · exact List.mem_append_right _ (.tail _ hp))) (fun p hp q hq => S' p hp q (.tail _ hq))
section
variable {w : World} {A : Around} {E : Value → Shared → Prop} {s : Shared} {env : Env}
theorem raise_x {x : Sem Value} {Q : Flow → Shared → Prop} (hh : A.handled = none)
    (h : wpAny (model Prog w) A x (fun v s₁ => ∃ e o t od, v = .ref e ∧ (Mine.hd.heap_1 w.params).In s₁.heap ∧ InstAt s₁.heap e o 76 od ∧ o.data = .fields #[.ref t, .none, .none, .none, .bool false, .none] ∧ E (.ref e) s₁) E s) :
    wpAny (model Prog w) A (raiseStmt env (some x) none) Q E s := by
  unfold raiseStmt
  refine wpAny_bind (wpAny_mono h (fun v s₁ h₁ => ?_) fun _ _ x => x)
  obtain ⟨e, o, t, od, rfl, X, I, hd, hE⟩ := h₁
  obtain ⟨hp, g, d, tk, os⟩ := s₁
  have he := I.at_
  have hcls := I.cls
  have hC := X 76 _ rfl
  have hcB : (Value.ref 76 :: bm76).contains (.type "BaseException") = true := by decide
  repeat (first | (with_reducible refine wpAny_loadPart_at he ?_; rw [hcls]) | with_reducible refine wpAny_loadPart_at hC ?_ | (with_reducible refine wpAny_isSubtype_exc (bm := bm76) hC ?_; rw [hcB]) | wp_step)
  rw [hd]
  repeat (first | wp_step | dsimp only)
  exact wpAny_raiseNew_none hh hE
theorem Raise_x {x : Expr} {pos : Pos} {Q : Flow → Shared → Prop} (hh : A.handled = none)
    (h : wpAny (model Prog w) A (eval x env) (fun v s₁ => ∃ e o t od, v = .ref e ∧ (Mine.hd.heap_1 w.params).In s₁.heap ∧ InstAt s₁.heap e o 76 od ∧ o.data = .fields #[.ref t, .none, .none, .none, .bool false, .none] ∧ E (.ref e) s₁) E s) :
    wpAny (model Prog w) A (exec (.Raise (some x) none pos) env) Q E s := by
  rw [arm_exec_Raise]
  refine wpAny_bind (wpAny_standAt ?_)
  refine raise_x hh (wpAny_bind (wpAny_mono h (fun v s₁ h₁ => wpAny_bind (wpAny_standAt (wpAny_pure h₁))) fun _ _ x => x))
end
-- ExcF
theorem top_ExcF : True := by
  w_top off
  trivial
/-- an exception that carries a traceback, and its own dict -/
def TrD (h base : Heap) (e : Addr) (dd : Option Addr) (fl : Value) : Prop :=
  ∃ oe vs T oT ts, h.get? e = some oe ∧ oe.cls = .ref 76 ∧ oe.dict = dd ∧ oe.data = .fields vs ∧ vs[1]? = some (.ref T) ∧ base.get? T = none ∧ T ≠ e ∧ h.get? T = some oT ∧ oT.data = .fields ts ∧ ts[3]? = some fl
/-- what one entry of the traceback leaves -/
def EntD (base : Heap) (l : List Env) (e : Addr) (dd : Option Addr) (fl : Value) (h h' : Heap) : Prop :=
  base.StaysIn h' ∧ h'.FunFrames base l ∧ TrD h' base e dd fl ∧ h.UpToSlots h'
section
variable {M : Model} {A : Around} {E : Value → Shared → Prop} {s : Shared}
theorem map_dict (o : Obj) (f : Array Value → Array Value) : (o.mapFields f).dict = o.dict := by
  obtain ⟨oc, od, oda, osl⟩ := o
  cases oda <;> rfl
theorem entryD {base : Heap} {env : Env} {outer : List Env} {L e : Addr} {oe : Obj} {vs : Array Value} {head : Value} {hadNext : Bool} {Q : Unit → Shared → Prop}
    (hfr : A.frames = some (env :: outer)) (hl : s.heap.FunFrames base (env :: outer)) (hf : env.frame = some L)
    (he : s.heap.get? e = some oe) (hcl : oe.cls = .ref 76) (hkb : base.StaysIn s.heap) (hen : base.get? e = none) (hd : oe.data = .fields vs) (hsz : 1 < vs.size)
    (h : ∀ h', EntD base (env :: outer) e oe.dict (rawInt L) s.heap h' → Q () { s with heap := h' }) :
    wpAny M A (do let a ← frameOf env; let pl ← entryPlaceOf L hadNext; let b ← EntryCells.newEntry head a .none (rawInt L) .none pl; setField (.ref e) 1 b) Q E s := by
  have hene : e ∉ (env :: outer).filterMap (·.frame) := fun hm => by
    obtain ⟨_, o, ho, hnf⟩ := hl.mem hm
    rw [he] at ho; injection ho with ho; subst ho; exact hnf vs hd
  refine wpAny_bind (wpAny_frameOf_fun hfr hl hf fun h₁ hs₁ => ?_)
  refine wpAny_bind (wpAny_entryPlaceOf fun pl hpl => ?_)
  unfold EntryCells.newEntry newFields
  refine wpAny_bind (wpAny_newObj_type ?_ (hpl.sizeOk5 _ _ _ _ _))
  have he₁ : h₁.get? e = some oe := (hs₁.2.1 e hene).trans he
  have kb₁ : base.StaysIn h₁ := fun b o hbo => (hs₁.2.1 b fun hm => by rw [(hl.mem hm).1] at hbo; cases hbo).trans (hkb b o hbo)
  generalize hT : ({ cls := .type "traceback", dict := none, data := .fields ([head, .ref L, .none, rawInt L, .none] ++ (if pl.isEmpty then List.replicate 6 Value.none else pl)).toArray } : Obj) = tb
  have htb : ∃ ts, tb.data = .fields ts ∧ ts[3]? = some (rawInt L) := by
    subst hT
    exact ⟨_, rfl, by simp⟩
  obtain ⟨ts, htb1, htb2⟩ := htb
  have htf : tb.isFreed = false := Obj.isFreed_of_fields htb1
  have he₂ := Heap.get?_push_of_some (h := h₁) tb he₁
  refine wpAny_setField he₂ hd hsz (h _ ?_)
  have hTe : h₁.objs.size ≠ e := Nat.ne_of_gt (Heap.lt_size he₁)
  have hd₃ := Obj.data_mapFields hd (·.setIfInBounds 1 (Value.ref h₁.objs.size))
  have he₃ := Heap.get?_update_self (Obj.mapFields (·.setIfInBounds 1 (Value.ref h₁.objs.size))) he₂ (Obj.isFreed_of_fields hd₃)
  have hT₃ := (Heap.get?_update_other (h₁.push tb) (Obj.mapFields (·.setIfInBounds 1 (Value.ref h₁.objs.size))) (Ne.symm hTe)).trans (Heap.get?_push_size h₁ htf)
  have keep : ∀ b o, b ≠ e → h₁.get? b = some o → ((h₁.push tb).update e (Obj.mapFields (·.setIfInBounds 1 (Value.ref h₁.objs.size)))).get? b = some o := fun b o hbe hb => by
    rw [Heap.get?_update_other _ _ (Ne.symm hbe)]
    exact Heap.get?_push_of_some _ hb
  have noRecord : ∀ b o, s.heap.get? b = some o → (∀ vs, o.data ≠ .fields vs) → b ≠ e := fun b o hb hnf q => by
    rw [q, he] at hb; injection hb with hb; subst hb; exact hnf vs hd
  refine ⟨fun b o hbo => keep b o (fun q => by rw [q, hen] at hbo; cases hbo) (kb₁ b o hbo), hl.of_keeps fun b o hb hnf => ?_, ?_, fun b o hb hnf => ?_⟩
  · obtain ⟨sl, hs⟩ := hs₁.2.2 b o hb
    exact ⟨_, keep b _ (noRecord b o hb hnf) hs, rfl⟩
  · exact ⟨_, _, h₁.objs.size, _, _, he₃, (Obj.cls_mapFields _ _).trans hcl, map_dict _ _, hd₃, by simp [hsz], kb₁.fresh, hTe, hT₃, htb1, htb2⟩
  · obtain ⟨sl, hs⟩ := hs₁.2.2 b o hb
    exact ⟨sl, keep b _ (noRecord b o hb hnf) hs⟩
theorem flightD {base : Heap} {l : List Env} {e : Addr} {dd : Option Addr} {fl : Value} {Q : Unit → Shared → Prop}
    (hkb : base.StaysIn s.heap) (hl : s.heap.FunFrames base l) (ht : TrD s.heap base e dd fl)
    (h : ∀ h', EntD base l e dd .none s.heap h' → Q () { s with heap := h' }) : wpAny M A (setFlight (.ref e) none) Q E s := by
  obtain ⟨oe, vs, T, oT, ts, he, hcls, hdd, hd, h1, hnT, hTe, hT, hdT, h3⟩ := ht
  have hsz3 : 3 < ts.size := (Array.getElem?_eq_some_iff.mp h3).1
  have other : ∀ b, b ≠ T → (s.heap.update T (Obj.mapFields (·.setIfInBounds 3 ((none : Option Addr).elim Value.none fun f => rawInt f)))).get? b = s.heap.get? b := fun b hb => Heap.get?_update_other _ _ (Ne.symm hb)
  have noRecord : ∀ b o, s.heap.get? b = some o → (∀ vs, o.data ≠ .fields vs) → b ≠ T := fun b o hb hnf q => by
    rw [q, hT] at hb; injection hb with hb; subst hb; exact hnf ts hdT
  unfold setFlight
  refine wpAny_bind (wpAny_field he hd h1 ?_)
  rw [if_pos (show (Value.ref T != Value.none) = true from by simp)]
  refine wpAny_setField hT hdT hsz3 (h _ ⟨fun b o hbo => (other b fun q => by rw [q, hnT] at hbo; cases hbo).trans (hkb b o hbo),
    hl.of_keeps fun b o hb hnf => ⟨o, (other b (noRecord b o hb hnf)).trans hb, rfl⟩, ?_, fun b o hb hnf => ⟨o.slots, (other b (noRecord b o hb hnf)).trans hb⟩⟩)
  exact ⟨oe, vs, T, _, _, (other e (Ne.symm hTe)).trans he, hcls, hdd, hd, h1, hnT, hTe, Heap.get?_update_self _ hT (Obj.isFreed_of_fields (Obj.data_mapFields hdT _)), Obj.data_mapFields hdT _, by simp [hsz3]⟩
/-- a frame is noted that the exception has not passed yet -/
theorem noteD {base : Heap} {env : Env} {outer : List Env} {L e : Addr} {dd : Option Addr} {Q : Unit → Shared → Prop}
    (hfr : A.frames = some (env :: outer)) (hl : s.heap.FunFrames base (env :: outer)) (hf : env.frame = some L) (ht : TrD s.heap base e dd .none) (hkb : base.StaysIn s.heap) (hen : base.get? e = none)
    (h : ∀ h', EntD base (env :: outer) e dd (rawInt L) s.heap h' → Q () { s with heap := h' }) : wpAny M A (noteFrame (.ref e) env) Q E s := by
  obtain ⟨oe, vs, T, oT, ts, he, hcls, hdd, hd, h1, hnT, hTe, hT, hdT, h3⟩ := ht
  subst hdd
  unfold noteFrame
  simp only [hf]
  refine wpAny_bind (wpAny_field he hd h1 ?_)
  rw [if_pos (show (Value.ref T != Value.none) = true from by simp)]
  refine wpAny_bind (wpAny_field hT hdT h3 ?_)
  rw [if_neg (show ¬ ((Value.none == rawInt L) = true) from by simp [rawInt])]
  refine wpAny_bind (wpAny_setField hT hdT (Array.getElem?_eq_some_iff.mp h3).1 ?_)
  have other : ∀ b, b ≠ T → (s.heap.update T (Obj.mapFields (·.setIfInBounds 3 Value.none))).get? b = s.heap.get? b := fun b hb => Heap.get?_update_other _ _ (Ne.symm hb)
  have noRecord : ∀ b o, s.heap.get? b = some o → (∀ vs, o.data ≠ .fields vs) → b ≠ T := fun b o hb hnf q => by
    rw [q, hT] at hb; injection hb with hb; subst hb; exact hnf ts hdT
  refine entryD hfr (hl.of_keeps fun b o hb hnf => ⟨o, (other b (noRecord b o hb hnf)).trans hb, rfl⟩) hf ((other e (Ne.symm hTe)).trans he) hcls
    (fun b o hbo => (other b fun q => by rw [q, hnT] at hbo; cases hbo).trans (hkb b o hbo)) hen hd (Array.getElem?_eq_some_iff.mp h1).1
    fun h' ⟨x1, x2, x3, x4⟩ => h h' ⟨x1, x2, x3, fun b o hb hnf => x4 b o ((other b (noRecord b o hb hnf)).trans hb) hnf⟩
/-- a new exception leaves the frame that raised it -/
theorem leaveD {base : Heap} {env : Env} {outer : List Env} {L e : Addr} {oe : Obj} {vs : Array Value} {Q : Unit → Shared → Prop}
    (hfr : A.frames = some (env :: outer)) (hl : s.heap.FunFrames base (env :: outer)) (hf : env.frame = some L)
    (he : s.heap.get? e = some oe) (hcl : oe.cls = .ref 76) (hkb : base.StaysIn s.heap) (hen : base.get? e = none) (hd : oe.data = .fields vs) (h1 : vs[1]? = some .none)
    (h : ∀ h', EntD base (env :: outer) e oe.dict .none s.heap h' → Q () { s with heap := h' }) : wpAny M A (leaving env (.ref e)) Q E s := by
  unfold leaving noteFrame
  simp only [hf]
  refine wpAny_bind (wpAny_bind (wpAny_field he hd h1 ?_))
  rw [if_neg (by decide)]
  refine entryD hfr hl hf he hcl hkb hen hd (Array.getElem?_eq_some_iff.mp h1).1 fun h' ⟨x1, x2, x3, x4⟩ => ?_
  refine flightD x1 x2 x3 fun h'' ⟨y1, y2, y3, y4⟩ => h h'' ⟨y1, y2, y3, x4.trans y4⟩
end
-- EnumLoop
theorem top_EnumLoop : True := by
  w_top off
  trivial
/-- an enumerate object, its inner iterator -/
abbrev enO (it : Addr) (i : Int) (old : Value) : Obj := { cls := .type "enumerate", dict := none, data := .fields #[.none, .bool false, .ref it, rawInt i, .none, old], slots := #[] }
def ETurnEnd {σ : Type} (h₀ : Heap) (L : Addr) (pre : List (Addr × Obj)) (led : σ → List (Addr × Obj)) (ps : σ → List (Str × Value)) (J : σ → Prop) (s₁ : Shared) (Q : Flow → Shared → Prop) (f : Flow) (s₂ : Shared) : Prop := match f with
  | .ret v => Q (.ret v) s₂
  | .brk => Q .next s₂
  | _ => ∃ c h' tk m', s₂ = { s₁ with heap := h', toks := tk } ∧ Fr h₀ L h' m' ∧ News h₀ L h' (pre ++ led c) ∧ (∀ p ∈ led c, ∀ q ∈ pre, p.1 ≠ q.1) ∧ (∀ p ∈ ps c, m' p.1 = some p.2) ∧ J c
/-- where the loop stands ahead of its first turn -/
inductive EnumSt {σ : Type} (w : World) (A : Around) (E : Value → Shared → Prop) (env : Env) (h₀ : Heap) (body : List Stmt) (Q : Flow → Shared → Prop) (xi xv : Str) (led : σ → List (Addr × Obj)) (ps : σ → List (Str × Value)) (J : Nat → σ → Prop) (s : Shared) (x : Value) (s₁ : Shared) : Prop
  | mk (e it l : Addr) (oI : Obj) (vs : List Value) (nl : Nat) (c : σ) (m : Str → Option Value) (hx : x = .ref e) (hs : s₁ = { s with heap := s₁.heap, toks := s₁.toks }) (ho : oI.cls = .type "list_iterator" ∧ oI.data = .fields #[.ref l, .int (0 : Nat) 0]) (n1 : @Ne Nat e it) (n2 : @Ne Nat l e) (n3 : @Ne Nat l it)
      (F : Fr h₀ env.locals s₁.heap m) (N : News h₀ env.locals s₁.heap ((e, enO it 0 .none) :: (it, oI) :: (l, listOf (List.toArray vs) nl) :: led c)) (hsep : ∀ p ∈ led c, p.1 ≠ e ∧ p.1 ≠ it ∧ p.1 ≠ l) (hm : ∀ p ∈ ps c, m p.1 = some p.2) (hJ : J 0 c)
      (turn : ∀ i v t c (u : Str → Option Value) h tk pre, vs[i]? = some v → J i c → pre.length = 3 → (∀ p ∈ led c, ∀ q ∈ pre, p.1 ≠ q.1) →
        Fr h₀ env.locals h (fun y => if y = xv then some v else if y = xi then some (.int i t) else kstB u (ps c) y) → News h₀ env.locals h (pre ++ led c) →
        wpAny (model Prog w) A (execs body env) (ETurnEnd h₀ env.locals pre led ps (J (i + 1)) { s with heap := h, toks := tk } Q) E { s with heap := h, toks := tk })
      (done : ∀ c (u : Str → Option Value) h tk, J vs.length c → Fr h₀ env.locals h (kstB u (ps c)) → News h₀ env.locals h (led c) → Q .next { s with heap := h, toks := tk }) : EnumSt w A E env h₀ body Q xi xv led ps J s x s₁
inductive EnumInv {σ : Type} (L : Addr) (h₀ : Heap) (led : σ → List (Addr × Obj)) (ps : σ → List (Str × Value)) (J : Nat → σ → Prop) (e it l : Addr) (vs : List Value) (nl : Nat) (g : Array GenState) (d : Drawn) (os : OsState) (k : Nat) (s' : Shared) : Prop
  | mk (h' : Heap) (tk : Nat) (m' : Str → Option Value) (i : Nat) (c : σ) (old : Value) (oI : Obj) (hs : s' = ⟨h', g, d, tk, os⟩) (hk : k = vs.length - i) (hi : i ≤ vs.length) (hJ : J i c) (ho : oI.cls = .type "list_iterator" ∧ oI.data = .fields #[.ref l, .int (i : Nat) 0])
      (F : Fr h₀ L h' m') (N : News h₀ L h' ((e, enO it i old) :: (it, oI) :: (l, listOf (List.toArray vs) nl) :: led c)) (hsep : ∀ p ∈ led c, p.1 ≠ e ∧ p.1 ≠ it ∧ p.1 ≠ l) (hm : ∀ p ∈ ps c, m' p.1 = some p.2) : EnumInv L h₀ led ps J e it l vs nl g d os k s'
section
variable {w : World} {A : Around} {E : Value → Shared → Prop} {s : Shared} {env : Env} {h₀ : Heap} {body : List Stmt} {Q : Flow → Shared → Prop} {σ : Type} {m₀ : Str → Option Value}
theorem iterObj {h : Heap} {it l : Addr} {i : Nat} (H : h.IsListIter it l i) : ∃ o, h.get? it = some o ∧ o.cls = .type "list_iterator" ∧ o.data = .fields #[.ref l, .int i 0] := H
theorem loop_enum {xi xv : Str} {pi pv pt pos : Pos} {x1} {iter : Expr} (led : σ → List (Addr × Obj)) (ps : σ → List (Str × Value)) (J : Nat → σ → Prop)
    (hh : A.handled = none) (hxi : env.kindOf xi = some .local) (hxv : env.kindOf xv = some .local)
    (hp : (env.scope.kind == .class || (env.scope.kind == .module && env.locals != env.globals)) = false)
    (hit : wpAny (model Prog w) A (eval iter env) (fun x s₁ => EnumSt w A E env h₀ body Q xi xv led ps J s x s₁) E s)
    (hs : ∀ x, foldedSetIterable iter env x = pure x := by intro _; rfl)
    (hE : PassesOwn (model Prog w) A env E := by passes_own) :
    wpAny (model Prog w) A (exec (.For (.Tuple [.Name xi pi, .Name xv pv] x1 pt) iter body [] pos) env) Q E s := by
  refine wpAny_For (wpAny_mono hit (fun x s₁ hx => ?_) fun _ _ e => e) hs
  obtain ⟨e, it, l, oI, vs, nl, c, m, rfl, es, ⟨oc1, oc2⟩, hei, hle, hli, F, N, hsep, hm, hJ, turn, done⟩ := hx
  obtain ⟨H, g, d, tk, os⟩ := s₁
  obtain ⟨h0, g0, d0, tk0, os0⟩ := s
  injection es with _ q2 q3 _ q5; subst q2 q3 q5
  refine wpAny_pyIter_enum (N _ (.head _)).1 ?_
  refine codeAny_forLoop_any (EnumInv env.locals h₀ led ps J e it l vs nl g d os) ?_ vs.length
    ⟨H, tk, m, 0, c, .none, oI, rfl, rfl, Nat.zero_le _, hJ, ⟨oc1, oc2⟩, F, N, hsep, hm⟩
  rintro k s' ⟨h₁, tk₁, m₁, i, c₁, old, oI₁, rfl, rfl, hi, hJ₁, ⟨oc1, oc2⟩, F₁, N₁, hsep₁, hm₁⟩
  have he := (N₁ _ (.head _)).1
  have hI : h₁.IsListIter it l i := ⟨oI₁, (N₁ _ (.tail _ (.head _))).1, oc1, oc2⟩
  have hl : h₁.IsList l vs.toArray := ⟨_, (N₁ _ (.tail _ (.tail _ (.head _)))).1, rfl, _, rfl⟩
  have nE := N₁ _ (.head _)
  have nI := N₁ _ (.tail _ (.head _))
  have nL := N₁ _ (.tail _ (.tail _ (.head _)))
  dsimp only at nE nI nL
  cases hv : vs[i]? with
  | none =>
    have hsz : i = vs.length := Nat.le_antisymm hi (by simpa using hv)
    subst hsz
    refine wpAny_pyNext_enum_end hh he hI hl (by simp) fun h₂ hx₂ => wpAny_execs_nil ?_
    refine done c₁ m₁ h₂ tk₁ hJ₁ ?_ ?_
    · rw [kstB_self hm₁]
      exact ⟨F₁.ns.extBut hx₂ (Ne.symm nI.2.1), fun b o hb => hx₂ b o (fun q => by rw [q, nI.2.2] at hb; cases hb) (F₁.keep b o hb), F₁.above⟩
    · intro p hp
      obtain ⟨n1, n2, n3⟩ := N₁ p (.tail _ (.tail _ (.tail _ hp)))
      exact ⟨hx₂ _ _ (hsep₁ p hp).2.1 n1, n2, n3⟩
  | some v =>
    have hlt : i < vs.length := (List.getElem?_eq_some_iff.mp hv).1
    refine wpAny_pyNext_enum_item he hI hl (by simpa using hv) hei fun h₂ heo hit₂ ht₂ hz₂ hk₂ => ?_
    refine wpAny_letOwnedTupleGo_enum heo fun h₃ he₃ hs₃ => ?_
    replace hs₃ : Heap.SameBut e h₂ h₃ := hs₃
    have heH : e < h₁.objs.size := Heap.lt_size he
    have ht₃ : h₃.get? h₁.objs.size = some (tup [.int i tk₁, v]) := (hs₃.2 _ (Nat.ne_of_gt heH)).trans ht₂
    have up : ∀ b o, b ≠ e → b ≠ it → h₁.get? b = some o → h₃.get? b = some o := fun b o h1 h2 hb => (hs₃.2 b h1).trans (hk₂ b o h1 h2 hb)
    obtain ⟨oI₃, hI1, hI2, hI3⟩ := hit₂
    have F₃ : Fr h₀ env.locals h₃ m₁ := ⟨F₁.ns.at fun o x => up _ o (Ne.symm nE.2.1) (Ne.symm nI.2.1) x, fun b o hb => up b o (fun q => by rw [q, nE.2.2] at hb; cases hb) (fun q => by rw [q, nI.2.2] at hb; cases hb) (F₁.keep b o hb), F₁.above⟩
    have N₃ : News h₀ env.locals h₃ ((e, enO it ((i : Int) + 1) v) :: (it, oI₃) :: (l, listOf (List.toArray vs) nl) :: led c₁) := by
      intro p hp
      rcases List.mem_cons.mp hp with rfl | hp
      · exact ⟨he₃, nE.2⟩
      rcases List.mem_cons.mp hp with rfl | hp
      · exact ⟨(hs₃.2 it hei.symm).trans hI1, nI.2⟩
      rcases List.mem_cons.mp hp with rfl | hp
      · exact ⟨up _ _ hle hli nL.1, nL.2⟩
      · obtain ⟨n1, n2, n3⟩ := N₁ p (.tail _ (.tail _ (.tail _ hp)))
        exact ⟨up _ _ (hsep₁ p hp).1 (hsep₁ p hp).2.1 n1, n2, n3⟩
    refine assign_pair (s := ⟨h₃, g, d, tk₁ + 1, os⟩) hh hxi hxv hp F₃ N₃ ht₃ fun h₄ tk₄ F₄ N₄ => ?_
    have hsp : ∀ p ∈ led c₁, ∀ q ∈ [(e, enO it ((i : Int) + 1) v), (it, oI₃), (l, listOf (List.toArray vs) nl)], p.1 ≠ q.1 := by
      intro p hp q hq
      obtain ⟨s1, s2, s3⟩ := hsep₁ p hp
      simp only [List.mem_cons, List.not_mem_nil, or_false] at hq
      rcases hq with rfl | rfl | rfl <;> assumption
    refine wpAny_passesOwn hE (wpAny_mono (turn i v tk₁ c₁ m₁ h₄ tk₄ [(e, enO it ((i : Int) + 1) v), (it, oI₃), (l, listOf (List.toArray vs) nl)] hv hJ₁ rfl hsp (by rw [kstB_self hm₁]; exact F₄) N₄) (fun f s₅ p => ?_) fun _ _ x => x)
    have fin : (∃ c' h' tk m', s₅ = (⟨h', g, d, tk, os⟩ : Shared) ∧ Fr h₀ env.locals h' m' ∧ News h₀ env.locals h' ([(e, enO it ((i : Int) + 1) v), (it, oI₃), (l, listOf (List.toArray vs) nl)] ++ led c') ∧ (∀ p ∈ led c', ∀ q ∈ [(e, enO it ((i : Int) + 1) v), (it, oI₃), (l, listOf (List.toArray vs) nl)], p.1 ≠ q.1) ∧ (∀ p ∈ ps c', m' p.1 = some p.2) ∧ J (i + 1) c') →
        ∃ m, m < vs.length - i ∧ EnumInv env.locals h₀ led ps J e it l vs nl g d os m s₅ := by
      rintro ⟨c', h', tk', m', rfl, F', N', hs', hm', hJ'⟩
      refine ⟨vs.length - (i + 1), by omega, ⟨h', tk', m', i + 1, c', v, oI₃, rfl, rfl, hlt, hJ', ⟨hI2, hI3⟩, F', ?_, fun p hp => ⟨hs' p hp _ (.head _), hs' p hp _ (.tail _ (.head _)), hs' p hp _ (.tail _ (.tail _ (.head _)))⟩, hm'⟩⟩
      exact N'
    cases f with
    | ret v => exact p
    | brk => exact p
    | next => exact fin p
    | cont => exact fin p
end
-- Throw
theorem top_Throw : True := by
  w_top off
  trivial
/-- an exception has left a call: what stood and is no frame stands, the exception has its dict -/
def Flew (g : Heap) (fr : List Env) (e : Addr) (mA : Str → Option Value) (h' : Heap) : Prop :=
  ∃ B d oD, (∀ b o, g.get? b = some o → b ∉ fr.filterMap (·.frame) → B.get? b = some o) ∧ B.StaysIn h' ∧ B.get? e = none ∧ h'.FunFrames B fr ∧ TrD h' B e (some d) .none ∧ B.get? d = some oD ∧ NsObj oD mA ∧ g.UpToSlots h' ∧ g.get? e = none ∧ g.get? d = none
section
variable {M : Model} {A : Around} {E : Value → Shared → Prop} {s' : Shared} {base g : Heap} {outer : List Env} {L a e : Addr} {m mA : Str → Option Value} {name : Str} {scope : Scope} {cd : Value} {Q : Unit → Shared → Prop} {own rest : List (Addr × Obj)}
theorem throwD {n0 : Str} {v0 : Value} (K : Below A base outer g) (X : XOwn e mA own) (h0 : mA n0 = some v0) (F : Fr g L s'.heap m) (N : News g L s'.heap (own ++ rest)) 
    (hQ : ∀ h', Flew g outer e mA h' → Q () { s' with heap := h' }) (hk : scope.kind = .function := by rfl) :
    wpAny M (A.deeper (envOf name scope L a cd)) (leaving (envOf name scope L a cd) (.ref e)) Q E s' := by
  have K' := K.push (name := name) (a := a) (cd := cd) F hk
  obtain ⟨o, t, hc, hd, ⟨_, _, h2⟩ | ⟨d, oD, rfl, h1, h2, h3⟩⟩ := X
  · rw [h2 n0] at h0; cases h0
  have ne := N _ (.head _)
  have nd := N _ (.tail _ (.head _))
  dsimp only at ne nd
  have hin : ∀ env ∈ (envOf name scope L a cd :: outer), ∀ b, env.frame = some b → b ∈ e :: (envOf name scope L a cd :: outer).filterMap (·.frame) := fun env he b hb => .tail _ (List.mem_filterMap.mpr ⟨env, he, hb⟩)
  have hf : ∀ b, (b = L ∨ b ∈ outer.filterMap (·.frame)) ↔ b ∈ (envOf name scope L a cd :: outer).filterMap (·.frame) := fun b => by
    show _ ↔ b ∈ L :: outer.filterMap (·.frame)
    rw [List.mem_cons]
  have hno : ∀ b, g.get? b = none → b ≠ L → b ∉ (envOf name scope L a cd :: outer).filterMap (·.frame) := fun b hb hbL hm => by
    rcases (hf b).mpr hm with q | hm
    · exact hbL q
    · obtain ⟨_, o, ho, _⟩ := K.frames.mem hm
      rw [hb] at ho; cases ho
  refine leaveD K'.stack (funFrames_hide K'.frames hin) rfl ne.1 hc (fun b o q => of_hideAll _ q) (hideAll_none _ (.head _)) hd rfl fun h' ⟨x1, x2, x3, x4⟩ => hQ h' ?_
  rw [h1] at x3
  refine ⟨_, d, oD, fun b o hb hnf => hideAll_get _ (F.keep b o hb) fun hm => ?_, x1, hideAll_none _ (.head _), x2.2.2, x3, hideAll_get _ nd.1 fun hm => ?_, h3, (Heap.UpToSlots.of_keeps F.keep).trans x4, ne.2.2, nd.2.2⟩
  · rcases List.mem_cons.mp hm with rfl | hm
    · rw [ne.2.2] at hb; cases hb
    · rcases (hf b).mpr hm with rfl | hm
      · exact absurd (Heap.lt_size hb) (Nat.not_lt.mpr F.above)
      · exact hnf hm
  · rcases List.mem_cons.mp hm with q | hm
    · exact h2 q
    · exact hno d nd.2.2 nd.2.1 hm
end
-- CLog
theorem top_CLog : True := by
  w_top off
  trivial
theorem DoesK.use {w : World} {f : Addr} {args : List Value} {imm : List (Addr × Obj)} {n : Nat} {Post : Value → List (Addr × Obj) → Prop} {mean : ExcName → Option Value} {mg mb : Str → Option Value} {dp un : Nat} {gd : Option (List Code)} {cn : Str} {cs : Scope} {a : Addr} {ccd : Value} {cl : List (Str × Addr)} {outer : List Env} {A₀ : Around} {base h₀ : Heap} {L : Addr}
    {m : Str → Option Value} {news : List (Addr × Obj)} {s : Shared} {Q E : Value → Shared → Prop} (D : DoesK w f args imm n Post)
    (G : Amb w mean mg mb A₀ base h₀ outer) (hk : cs.kind = .function) (F : Fr h₀ L s.heap m) (N : News h₀ L s.heap news) (himm : ∀ p ∈ imm, h₀.get? p.1 = some p.2 ∨ p ∈ news)
    (hd : dp + n < recursionLimit) (hu : un + 10 * n < cLine)
    (k : ∀ r own' h' tk, Post r own' → Fr h₀ L h' m → News h₀ L h' (own' ++ news) → (∀ p ∈ own', ∀ q ∈ news, p.1 ≠ q.1) → Q r { s with heap := h', toks := tk }) :
    wpAny (model Prog w) (ktrTop dp un gd cn cs L a ccd cl outer) (call (.ref f) args) Q E s :=
  D mean mg mb dp un gd cn cs a ccd cl outer A₀ base h₀ L m news s Q E G hk F N himm hd hu k
local macro_rules | `(tactic| walk_at "exec Raise some none") => `(tactic| refine halt_of ?_)
local macro_rules | `(tactic| walk_at "call type:enumerate") => `(tactic| refine halt_of ?_)
theorem call_enumN {w : World} {A : Around} {E : Value → Shared → Prop} {s : Shared} {h₀ : Heap} {L l : Addr} {m : Str → Option Value} {vs : List Value} {nl : Nat} {news : List (Addr × Obj)} {Q : Value → Shared → Prop} (F : Fr h₀ L s.heap m) (N : News h₀ L s.heap news) (hl : (l, listOf vs.toArray nl) ∈ news)
    (h : ∀ e it oI h', (oI.cls = .type "list_iterator" ∧ oI.data = .fields #[.ref l, .int (0 : Nat) 0]) → @Ne Nat e it → @Ne Nat l e → @Ne Nat l it → (∀ p ∈ news, p.1 ≠ e ∧ p.1 ≠ it) → Fr h₀ L h' m → News h₀ L h' ((e, enO it 0 .none) :: (it, oI) :: news) → Q (.ref e) { s with heap := h' }) :
    wpAny (model Prog w) A (call (.type "enumerate") [.ref l]) Q E s := by
  refine call_enumerate_list (items := vs.toArray) ⟨_, (N _ hl).1, rfl, _, rfl⟩ fun h' he hit hsz hk => ?_
  have hlt := Heap.lt_size (N _ hl).1
  dsimp only at hlt
  have nw : ∀ b, s.heap.objs.size ≤ b → b ≠ L ∧ h₀.get? b = none := fun b hb => by
    have h1 := F.ns.lt
    have h2 := F.above
    refine ⟨fun q => ?_, ?_⟩
    · rw [q] at hb; exact absurd h1 (Nat.not_lt.mpr hb)
    · cases q : h₀.get? b with
      | none => rfl
      | some o => exact absurd (Heap.lt_size q) (Nat.not_lt.mpr (Nat.le_trans h2 (Nat.le_trans (Nat.le_of_lt h1) hb)))
  refine hideG fun G0 hG0 => ?_
  obtain ⟨oI, i1, i2, i3⟩ := hit
  refine hG0 ?_
  clear hG0
  refine h _ _ oI h' ⟨i2, i3⟩ (Nat.succ_ne_self _) (Nat.ne_of_lt (Nat.lt_succ_of_lt hlt)) (Nat.ne_of_lt hlt) (fun p hp => ?_) ⟨F.ns.at fun o x => hk _ o x, fun b o hb => hk b o (F.keep b o hb), F.above⟩ (fun p hp => ?_)
  · have h1 := Heap.lt_size (N p hp).1
    exact ⟨Nat.ne_of_lt (Nat.lt_succ_of_lt h1), Nat.ne_of_lt h1⟩
  · rcases List.mem_cons.mp hp with rfl | hp
    · exact ⟨he, nw _ (Nat.le_succ _)⟩
    rcases List.mem_cons.mp hp with rfl | hp
    · exact ⟨i1, nw _ (Nat.le_refl _)⟩
    · exact ⟨hk _ _ (N p hp).1, (N p hp).2⟩
theorem Flew.up {g g₀ : Heap} {fr : List Env} {e : Addr} {mA : Str → Option Value} {h' : Heap} (x : Flew g fr e mA h') (k : ∀ b o, g₀.get? b = some o → g.get? b = some o) : Flew g₀ fr e mA h' := by
  refine hideG fun G0 hG0 => ?_
  obtain ⟨B, d, oD, x1, x2, x3, x4, x5, x6, x7, x8, x9, x10⟩ := x
  refine hG0 ?_
  clear hG0
  exact ⟨B, d, oD, fun b o hb => x1 b o (k b o hb), x2, x3, x4, x5, x6, x7, (Heap.UpToSlots.of_keeps k).trans x8, fresh_of_stays k x9, fresh_of_stays k x10⟩
theorem faultMap_step {what step : Value} : faultMap what step (Str.ofString "step") = some step := if_pos rfl
theorem len_three {l : List (Addr × Obj)} (h : l.length = 3) : ∃ a1 o1 a2 o2 a3 o3, l = [(a1, o1), (a2, o2), (a3, o3)] := by
  rcases l with _ | ⟨p1, l⟩
  · exact absurd h (by simp)
  rcases l with _ | ⟨p2, l⟩
  · exact absurd h (by simp)
  rcases l with _ | ⟨p3, l⟩
  · exact absurd h (by simp)
  rcases l with _ | ⟨p4, l⟩
  · exact ⟨p1.1, p1.2, p2.1, p2.2, p3.1, p3.2, rfl⟩
  · exact absurd h (by simp)
theorem US.Ok.sep {w : World} {u : US} {K : List Kl} (h : u.Ok w K) : ∀ p ∈ u.own w, ∀ q ∈ u.more K, p.1 ≠ q.1 := by
  refine hideG fun G0 hG0 => ?_
  obtain ⟨o1, o2, o3, o4, o5, o6, o7, o8, gt, _⟩ := h
  refine hG0 ?_
  clear hG0
  have g2 : ∀ q ∈ u.PL.map Pl.ob ++ u.Bs.map Qi.ob, @Ne Nat u.x q.1 ∧ @Ne Nat u.dx q.1 ∧ @Ne Nat u.aH q.1 ∧ @Ne Nat u.aO q.1 ∧ @Ne Nat u.aT q.1 ∧ @Ne Nat u.aR q.1 := fun q hq => by
    have h1 := gt q hq
    generalize q.1 = z at h1
    have h2 : @LT.lt Nat _ u.aR z := h1
    refine ⟨?_, ?_, ?_, ?_, ?_, ?_⟩ <;> first | exact ne_lt (by walk_at "MINE lt") | omega
  intro p hp q hq
  simp only [US.own, own6, US.more, List.mem_cons, List.not_mem_nil, or_false] at hp hq
  rcases hq with rfl | rfl | rfl | hq
  · rcases hp with rfl | rfl | rfl | rfl | rfl | rfl <;> (show @Ne Nat _ _; dsimp only; first | exact ne_lt (by walk_at "MINE lt") | exact ne_gt (by walk_at "MINE lt") | omega)
  · rcases hp with rfl | rfl | rfl | rfl | rfl | rfl <;> (show @Ne Nat _ _; dsimp only; first | exact ne_lt (by walk_at "MINE lt") | exact ne_gt (by walk_at "MINE lt") | omega)
  · rcases hp with rfl | rfl | rfl | rfl | rfl | rfl <;> (show @Ne Nat _ _; dsimp only; first | exact ne_lt (by walk_at "MINE lt") | exact ne_gt (by walk_at "MINE lt") | omega)
  · obtain ⟨k1, k2, k3, k4, k5, k6⟩ := g2 q hq
    rcases hp with rfl | rfl | rfl | rfl | rfl | rfl <;> assumption
local macro_rules | `(tactic| walk_at "MINE throw") => `(tactic| (
  (rename Amb _ _ _ _ _ _ _ _ => gX); 
  refine DoesK.use newFault gX rfl (by assumption) (by assumption) (fun _ h => nomatch h) (by walk_at "MINE room") (by walk_at "MINE room") ?_;
  rintro _ own9 h9 tk9 ⟨e9, rfl, hX9⟩ F9 N9 S9;
  obtain ⟨o9, t9, od9, I9, d9⟩ := hX9.full N9;
  refine ⟨e9, o9, t9, od9, rfl, gX.X.keeps F9.keep, I9, d9, ?_⟩;
  refine throwD gX.B hX9 faultMap_step F9 N9 fun h' hFl => ?_))
theorem clog_c {w : World} {P S : Addr} {K M : List Kl} {q : Kl} {eP eS : Nat} (hK : KOk 5 K) (hM : MOk 5 (M ++ [q])) (hKl : K.length ≤ 7) (hMl : M.length ≤ 3)
    {mean : ExcName → Option Value} {mg mb : Str → Option Value} {dp un : Nat} {gd : Option (List Code)} {cn : Str} {cs : Scope} {a : Addr} {ccd : Value} {cl : List (Str × Addr)} {outer : List Env} {A₀ : Around} {base h₀ : Heap} {L : Addr}
    {m : Str → Option Value} {rest : List (Addr × Obj)} {s : Shared} {Q E : Value → Shared → Prop} (G : Amb w mean mg mb A₀ base h₀ outer) (hk : cs.kind = .function) (F : Fr h₀ L s.heap m) (N : News h₀ L s.heap rest)
    (himm : ∀ p ∈ (P, listOf (K.map Kl.rf).toArray eP) :: (S, listOf (M.map Kl.rf).toArray eS) :: q.ob :: (K.map Kl.ob ++ M.map Kl.ob), s.heap.get? p.1 = some p.2)
    (hd : dp + 24 < recursionLimit) (hu : un + 240 < cLine) {fr : List Env} (hfr : (ktrTop dp un gd cn cs L a ccd cl outer).frames = some fr)
    (hret : FW (Kl.cls K) (Kl.cls (M ++ [q])) 0 (-1) → ∀ h' tk, Fr h₀ L h' m → News h₀ L h' rest → Q (.bool true) { s with heap := h', toks := tk })
    (hexc : ∀ e n what t h' tk, FW (Kl.cls K) (Kl.cls (M ++ [q])) 0 n → Flew s.heap fr e (faultMap what (.int n t)) h' → E (.ref e) { s with heap := h', toks := tk }) :
    wpAny (model Prog w) (ktrTop dp un gd cn cs L a ccd cl outer) (call (.ref 156) [.ref P, .ref S, .ref q.a]) Q E s := by
  have hsep : ∀ p ∈ ([] : List (Addr × Obj)), ∀ q ∈ rest, p.1 ≠ q.1 := fun _ h => nomatch h
  have N0 : News h₀ L s.heap ([] ++ rest) := N
  walk_at "MINE in"
  cases hfr
  intro g L' h₁ tk₁ FG F' N' G' st lt
  have hI : ∀ p ∈ (P, listOf (K.map Kl.rf).toArray eP) :: (S, listOf (M.map Kl.rf).toArray eS) :: q.ob :: (K.map Kl.ob ++ M.map Kl.ob), g.get? p.1 = some p.2 := fun p hp => st _ _ (himm p hp) (fun h => nomatch h)
  have hgP := hI _ (.head _)
  have hgS := hI _ (.tail _ (.head _))
  have hgq := hI _ (.tail _ (.tail _ (.head _)))
  clear F N N0 G himm hsep
  have ⟨B', X', T'⟩ := G'
  have hLP : g.IsList P (K.map Kl.rf).toArray := ⟨_, hgP, rfl, _, rfl⟩
  have hLS : g.IsList S (M.map Kl.rf).toArray := ⟨_, hgS, rfl, _, rfl⟩
  have hz1 : (K.map Kl.rf).length ≤ 7 := by rw [List.length_map]; exact hKl
  have hz2 : (M.map Kl.rf).length ≤ 4 := by rw [List.length_map]; omega
  try dsimp only
  try k_fold
  walk_at "MINE go"
  refine DoesK.use (new_u (eP := eP) hK (by omega)) G' rfl F' N' (fun p hp => .inl (hI p (by
    rcases List.mem_cons.mp hp with rfl | hp
    · exact .head _
    · exact .tail _ (.tail _ (.tail _ (List.mem_append_left _ hp)))))) (by walk_at "MINE room") (by walk_at "MINE room") ?_
  rintro v9 own9 h₃ tk₃ hJ9 F₃ N₃ S₃
  refine hideG fun G0 hG0 => ?_
  obtain ⟨u, rfl, rfl, hok⟩ := hJ9
  refine hG0 ?_
  clear hG0
  clear F' N' S₃
  simp only [List.append_nil] at N₃
  try dsimp only
  try k_fold
  walk_at "MINE go"
  (rename Fr _ _ _ _ => F4); (rename News _ _ _ _ => N4)
  refine halt_mk ?_
  refine loop_enum (h₀ := g) (σ := US × List Kl) (fun z => z.1.own w ++ z.1.more z.2) (fun z => [(Str.ofString "steps", .ref z.1.x), (Str.ofString "log", .ref S)])
    (fun i z => z.1.Ok w z.2 ∧ z.2 = K ++ (M ++ [q]).take i ∧ KOk 5 z.2 ∧ (∀ n, FW (Kl.cls z.2) (Kl.cls ((M ++ [q]).drop i)) i n → FW (Kl.cls K) (Kl.cls (M ++ [q])) 0 n)) rfl rfl rfl rfl ?_
  try k_fold
  walk_at "MINE go"
  (rename Fr _ _ _ _ => F5); (rename News _ _ _ _ => N5)
  rename_i N5p l9 hh9
  have eM : M.map Kl.rf ++ [Value.ref q.a] = (M ++ [q]).map Kl.rf := by simp [Kl.rf]
  rw [eM] at N5
  refine halt_mk ?_
  refine call_enumN F5 N5 (.head _) fun e it oI h₅ hoI hei hle hli hnw F6 N6 => ?_
  have hQl : ((M ++ [q]).map Kl.rf).length = M.length + 1 := by simp
  refine ⟨e, it, _, oI, (M ++ [q]).map Kl.rf, 0, (u, K), _, rfl, rfl, hoI, hei, hle, hli, F6, (fun p hp => N6 p ?_), (fun p hp => ⟨(hnw p (.tail _ (.tail _ (.tail _ hp)))).1, (hnw p (.tail _ (.tail _ (.tail _ hp)))).2, ?_⟩), (by kst_all), ⟨hok, by simp, hK, fun n hn => hn⟩, ?turn, ?done⟩
  · rcases List.mem_cons.mp hp with rfl | hp
    · exact .head _
    rcases List.mem_cons.mp hp with rfl | hp
    · exact .tail _ (.head _)
    rcases List.mem_cons.mp hp with rfl | hp
    · exact .tail _ (.tail _ (.head _))
    · exact .tail _ (.tail _ (.tail _ (.tail _ (.tail _ hp))))
  · exact Nat.ne_of_lt (Heap.lt_size (N5p p (.tail _ (.tail _ hp))).1)
  case done =>
    rintro ⟨u, Kp⟩ u₃ h₇ tk₇ hJ9 F₇ N₇
    refine hideG fun G0 hG0 => ?_
    obtain ⟨hok, hKp, hKo, hfw⟩ := hJ9
    refine hG0 ?_
    clear hG0
    dsimp only [kstB] at F₇ N₇ hok hKp hKo hfw
    try k_fold
    try dsimp only
    walk_at "MINE go"
    try dsimp only
    refine leaveF F₇ (news' := []) (fun _ h => nomatch h) ?_
    intro F9 N9 S9
    exact hret (hfw _ (by rw [List.drop_eq_nil_of_le (by simp)]; exact .nil)) _ _ F9 N9
  case turn =>
    clear F5 N5 F6 N6 N5p l9 hnw eM hQl hok
    rintro i v t ⟨u, Kp⟩ u₃ h₇ tk₇ pre hvi hJ9 hpre hoff F₇ N₇
    refine hideG fun G0 hG0 => ?_
    refine hideG fun G0 hG0 => ?_
    obtain ⟨hok, hKp, hKo, hfw⟩ := hJ9
    refine hG0 ?_
    clear hG0
    dsimp only [kstB] at F₇ N₇ hok hKp hKo hfw hoff
    refine hideG fun G0 hG0 => ?_
    obtain ⟨a1, o1, a2, o2, a3, o3, epre⟩ := len_three hpre
    refine hG0 ?_
    clear hG0
    refine hG0 ?_
    clear hG0
    rw [epre] at N₇ hoff ⊢
    clear hpre epre
    rw [List.getElem?_map] at hvi
    refine hideG fun G0 hG0 => ?_
    obtain ⟨k, hk1, rfl⟩ := Option.map_eq_some_iff.mp hvi
    have hkM : k ∈ M ++ [q] := List.mem_of_getElem? hk1
    obtain ⟨hku, hks⟩ := hM k hkM
    refine hG0 ?_
    clear hG0
    have hgk := hI k.ob (by
      rcases List.mem_append.mp hkM with h | h
      · exact .tail _ (.tail _ (.tail _ (List.mem_append_right _ (List.mem_map_of_mem h))))
      · rw [List.mem_singleton.mp h]; exact .tail _ (.tail _ (.head _)))
    have hdrop : Kl.cls ((M ++ [q]).drop i) = k.c :: Kl.cls ((M ++ [q]).drop (i + 1)) := by
      have hi' := (List.getElem?_eq_some_iff.mp hk1).1
      have h1 : (M ++ [q]).drop i = k :: (M ++ [q]).drop (i + 1) := by
        rw [List.drop_eq_getElem_cons hi']
        rw [List.getElem?_eq_getElem hi'] at hk1
        rw [Option.some.inj hk1]
      rw [h1]; rfl
    have hil : i < M.length + 1 := by
      have := (List.getElem?_eq_some_iff.mp hk1).1
      simpa using this
    dsimp only [Kl.rf] at F₇
    refine hideQ fun Qt hQt => ?_
    try k_fold
    walk_at "MINE go"
    refine Does.use ([(a1, o1), (a2, o2), (a3, o3)] ++ (u.own w ++ u.more Kp)) (isclause_c hku hks) G' rfl F₇ N₇ (fun p hp => by simpa using hp) (fun _ h => nomatch h) (fun p hp => .inl (by rw [List.mem_singleton.mp hp]; exact hgk)) (by walk_at "MINE room") (by walk_at "MINE room") ?_
    rintro v9 own9 h₈ tk₈ hJ9 F₈ N₈ S₈
    refine hideG fun G0 hG0 => ?_
    obtain ⟨b, rfl, rfl, hb⟩ := hJ9
    refine hG0 ?_
    clear hG0
    clear F₇ N₇ S₈
    simp only [List.nil_append] at N₈
    simp only [List.cons_append, List.nil_append] at N₈
    try dsimp only
    try k_fold
    walk_at "MINE go"
    · have hprop : Proper k.c := hb.mp (by assumption)
      have hKK : ∀ z ∈ Kp, g.get? z.a = some (tup z.us) := by
        rw [hKp]
        refine List.forall_mem_append.mpr ⟨fun z hz => hI z.ob (.tail _ (.tail _ (.tail _ (List.mem_append_left _ (List.mem_map_of_mem hz))))), fun z hz => ?_⟩
        rcases List.mem_append.mp (List.mem_of_mem_take hz) with h | h
        · exact hI z.ob (.tail _ (.tail _ (.tail _ (List.mem_append_right _ (List.mem_map_of_mem h)))))
        · rw [List.mem_singleton.mp h]; exact hI q.ob (.tail _ (.tail _ (.head _)))
      have hKpl : Kp.length ≤ 10 := by rw [hKp, List.length_append, List.length_take]; omega
      refine Does.use ((a1, o1) :: (a2, o2) :: (a3, o3) :: u.more Kp) (follows_u hok hKo (by omega) hku hks hprop) G' rfl F₈ N₈ ?f1 ?f2 ?f3 (by walk_at "MINE room") (by walk_at "MINE room") ?f4
      case f1 =>
        walk_at "MINE sub"
      case f2 =>
        intro p hp z hz
        rcases List.mem_cons.mp hz with rfl | hz
        · exact hoff p (List.mem_append_left _ hp) _ (.head _)
        rcases List.mem_cons.mp hz with rfl | hz
        · exact hoff p (List.mem_append_left _ hp) _ (.tail _ (.head _))
        rcases List.mem_cons.mp hz with rfl | hz
        · exact hoff p (List.mem_append_left _ hp) _ (.tail _ (.tail _ (.head _)))
        · exact hok.sep p hp z hz
      case f3 =>
        intro p hp
        rcases List.mem_cons.mp hp with rfl | hp
        · exact .inl hgk
        rcases List.mem_append.mp hp with hp | hp
        · exact .inr (.tail _ (.tail _ (.tail _ hp)))
        · obtain ⟨z, hz, rfl⟩ := List.mem_map.mp hp
          exact .inl (hKK z hz)
      case f4 =>
        rintro v own9 h₉ tk₉ hJ9 F₉ N₉ S₉
        refine hideG fun G0 hG0 => ?_
        obtain ⟨u', b', rfl, e1, e2, hok', rfl, hup⟩ := hJ9
        refine hG0 ?_
        clear hG0
        clear F₈ N₈
        have N10 : News g L' h₉ ((a1, o1) :: (a2, o2) :: (a3, o3) :: (US.own w u' ++ u'.more Kp)) := fun p hp => N₉ p (by
          rw [e2] at hp
          revert p
          walk_at "MINE sub")
        have hoff' : ∀ p ∈ US.own w u' ++ u'.more Kp, ∀ z ∈ [(a1, o1), (a2, o2), (a3, o3)], p.1 ≠ z.1 := fun p hp z hz => by
          rcases List.mem_append.mp hp with hp | hp
          · exact S₉ p hp z (by
              revert z
              walk_at "MINE sub")
          · rw [e2] at hp
            exact hoff p (List.mem_append_right _ hp) z hz
        clear N₉ S₉
        rw [← e1] at F₉
        try dsimp only
        try k_fold
        walk_at "MINE go"
        · refine Does.use [(a1, o1), (a2, o2), (a3, o3)] (add_u hok' hKpl hku hks hprop) G' rfl F₉ N10 (fun p hp => by
              revert p
              walk_at "MINE sub") (fun p hp z hz => hoff' p hp z hz) (fun p hp => .inl (by rw [List.mem_singleton.mp hp]; exact hgk)) (by walk_at "MINE room") (by walk_at "MINE room") ?_
          rintro v9 own9 hA tkA hJ9 FA NA SA
          refine hideG fun G0 hG0 => ?_
          obtain ⟨u2, rfl, e3, hok2, rfl⟩ := hJ9
          refine hG0 ?_
          clear hG0
          clear F₉ N10
          rw [← e3] at FA
          try dsimp only
          try k_fold
          walk_at "MINE go"
          try dsimp only [ETurnEnd]
          refine ⟨(u2, Kp ++ [k]), _, _, _, rfl, FA, fun p hp => NA p ?_, fun p hp z hz => SA p hp z hz, by kst_all, hok2, ?_, ?_, fun n hn => hfw n ?_⟩
          · simp only [List.mem_append, List.mem_cons, List.not_mem_nil, or_false] at hp ⊢
            rcases hp with (hp | hp | hp) | hp <;> simp [hp]
          · dsimp only
            rw [hKp, List.append_assoc, List.take_add_one, hk1]; rfl
          · exact List.forall_mem_append.mpr ⟨hKo, List.forall_mem_singleton.mpr ⟨hku, hks, hprop⟩⟩
          · have hnone : IsUP (Kl.cls Kp) (neg k.c) none := by
              rcases hup with ⟨_, h⟩ | ⟨h, _⟩
              · exact h
              · simp_all
            rw [hdrop]
            refine .step hprop hnone ?_
            have e2' : Kl.cls (Kp ++ [k]) = Kl.cls Kp ++ [k.c] := by simp [Kl.cls]
            rw [← e2']
            exact hn
        · have hsome : ∃ xs, IsUP (Kl.cls Kp) (neg k.c) (some xs) := by
            rcases hup with ⟨h, _⟩ | ⟨_, h⟩
            · simp_all
            · exact h
          obtain ⟨xs, hxs⟩ := hsome
          have hFW : FW (Kl.cls K) (Kl.cls (M ++ [q])) 0 i := hfw i (by rw [hdrop]; exact .lone hprop hxs)
          refine halt_mk ?_
          refine Raise_x rfl ?_
          try k_fold
          walk_at "MINE go"
          all_goals (walk_at "MINE throw"; (rename Flew _ _ _ _ _ => hFl); exact hexc _ _ _ _ _ _ hFW (hFl.up fun b o e => st b o e (fun h => nomatch h)))
    · have hFW : FW (Kl.cls K) (Kl.cls (M ++ [q])) 0 i := hfw i (by rw [hdrop]; exact .bad (fun hp => by have := hb.mpr hp; simp_all))
      refine halt_mk ?_
      refine Raise_x rfl ?_
      try k_fold
      walk_at "MINE go"
      all_goals (walk_at "MINE throw"; (rename Flew _ _ _ _ _ => hFl); exact hexc _ _ _ _ _ _ hFW (hFl.up fun b o e => st b o e (fun h => nomatch h)))
-- Caught
theorem top_Caught : True := by
  w_top off
  trivial
section
variable {w : World} {A : Around} {E : Value → Shared → Prop} {h : Heap} {g : Array GenState} {d : Drawn} {t : Nat} {os : OsState} {x : Addr} {mA : Str → Option Value} {name : Str} {v : Value}
open Builtin Builtin.ObjectAttr
theorem check_ga {M : Model} {o : Obj} {nameV : Value} {Q : Unit → Shared → Prop} (X : (Mine.hd.heap_1 w.params).In h) (hx : h.get? x = some o) (hc : o.cls = .ref 76)
    (hq : Q () ⟨h, g, d, t, os⟩) : wpAny M A (checkBuiltinCall "BaseException.__getattribute__" ⟨[.ref x, nameV], []⟩) Q E ⟨h, g, d, t, os⟩ := by
  have hC := X 76 _ rfl
  have hk : builtinKind "BaseException.__getattribute__" = some .slot := by decide +kernel
  have hsplit : splitId "BaseException.__getattribute__" = some ("BaseException", "__getattribute__") := by decide +kernel
  have hcB : (Value.ref 76 :: bm76).contains (.type "BaseException") = true := by decide
  have ha := F.args_bexc_ga (.ref x) nameV
  simp only [checkBuiltinCall, hk, hsplit]
  refine wpAny_bind ?_
  · unfold isInstance
    repeat (first | (with_reducible refine wpAny_loadPart_at hx ?_; rw [hc]) | (with_reducible refine wpAny_isSubtype_exc (bm := bm76) hC ?_; rw [hcB]) | wp_step)
    exact hq
/-- a field of a ProofFault is read -/
theorem exc_get {expr : Bool} {Q : Value → Shared → Prop} (X : (Mine.hd.heap_1 w.params).In h) (hname : findIn (Mine.hd.heap_1 w.params) (.ref 76) name = some none) (I : h.Inst x 76 mA) (hv : mA name = some v) (hh : handedOut v = pure v)
    (hq : Q v ⟨h, g, d, t + 1, os⟩) : wpAny (model Prog w) A (getAttr (.ref x) name expr) Q E ⟨h, g, d, t, os⟩ := by
  refine hideG fun G0 hG0 => ?_
  obtain ⟨o, od, IA⟩ := inst_at I
  obtain ⟨o', hx, hc, hnc, hd⟩ := I
  refine hG0 ?_
  clear hG0
  obtain rfl : o = o' := Option.some.inj (IA.at_.symm.trans hx)
  have hC := X 76 _ rfl
  have L0 := IA.type (M := model Prog w)
  have L1 : Looks (model Prog w) h (typeLookup (.ref 76) "__getattribute__") (some (.builtin "BaseException.__getattribute__")) := looks_findIn X (by k_is)
  have L2 : Looks (model Prog w) h (typeLookup (.ref 76) "__getattr__") none := looks_findIn X (by k_is)
  have L3 : Looks (model Prog w) h (typeLookup (.ref 76) name) none := looks_findIn X hname
  unfold getAttr getAttrBy
  refine wpAny_bind (wpAny_mkText (wpAny_holding (wpAny_bind (L0.at (wpAny_bind (L1.at ?_))))))
  have hx0 : (expr && onTheHeap (Value.builtin "BaseException.__getattribute__")) = false := by cases expr <;> rfl
  dsimp only
  rw [if_neg (by decide)]
  unfold getAttrByItsOwn hookBefore
  rw [if_pos (show onTheHeap (Value.ref 76) = true from rfl)]
  refine wpAny_bind (L2.at (wpAny_bind (wpAny_attempt (wpAny_holding ?_))))
  unfold callGetattribute boundAndCalled
  rw [hx0, if_neg Bool.false_ne_true, PySem.F.attr_Exception.ga.bind (.ref x)]
  refine wpAny_bind (wpAny_pure (wpAny_call ?_))
  refine codeAny_call_builtin PySem.F.attr_Exception.ga.plain F.entry_bexc_ga (check_ga X hx hc ?_)
  unfold Builtin.«object.__getattribute__»
  refine wpAny_bind (wpAny_pure (wpAny_bind (wpAny_pure (wpAny_bind (L0.at (wpAny_bind ?_))))))
  unfold find getOf dataDescriptor? ownThenClass
  refine wpAny_bind (L3.at (wpAny_bind (wpAny_pure (wpAny_bind (wpAny_pure (wpAny_bind ?_))))))
  rcases hd with ⟨_, hmA⟩ | ⟨dx, hdx, hne, hns⟩
  · rw [hmA name] at hv; cases hv
  unfold inOwnDict
  refine wpAny_bind (wpAny_bind (wpAny_loadPart hx ?_))
  split
  · rename_i c hcd
    exact absurd hcd (hnc c)
  unfold instanceDict
  repeat (first | (with_reducible refine wpAny_loadPart_at hx ?_; rw [hc]) | with_reducible refine wpAny_loadPart_at hC ?_ | wp_step)
  rw [hdx]
  repeat (first | (with_reducible refine wpAny_nsGet hns.ns ?_; rw [hv]) | wp_step)
  exact hq
end
section
variable {w : World} {A₀ : Around} {E : Value → Shared → Prop} {s' : Shared} {base g G : Heap} {outer : List Env} {L a e : Addr} {m mA : Str → Option Value} {name : Str} {scope : Scope} {cd : Value}
  {n : Str} {b₀ : Stmt} {suite : List Stmt} {pos np : Pos} {rest : List ExceptHandler} {Q : Flow → Shared → Prop} {KF : Frag}
  {p : Program} {loose : List Str} {mean : ExcName → Option Value} {mg mb : Str → Option Value} {x : Str}
/-- the exception is caught by its class, under a name -/
theorem caughtD (R : Flew G (envOf name scope L a cd :: outer) e mA s'.heap) (F : Fr g L G m) (K : Below A₀ base outer g) (XT : ∀ g', KtsTurn (outer.filterMap (·.frame)) g g' → KF.In g' ∧ TopRead p loose mg mb g')
    (ex : nsIn KF mainGlobals x = some (some (.ref 76))) (q : ktsIn KF 76 "BaseException" = true)
    (k : ∀ h' g' tk d oe oD vs, KtsTurn (outer.filterMap (·.frame)) g g' → Fr g' L h' (fun y => if y = n then some (.ref e) else m y) → News g' L h' [(e, oe), (d, oD)] → oe.cls = .ref 76 → oe.dict = some d → oe.data = .fields vs → d ≠ e → NsObj oD mA → Below A₀ base outer g' →
      wpAny (model Prog w) ((A₀.deeper (envOf name scope L a cd)).mark (some (.ref e))) (execs (b₀ :: suite) (envOf name scope L a cd))
        (fun f s₄ => wpAny (model Prog w) (A₀.deeper (envOf name scope L a cd)) (do bindName (envOf name scope L a cd) n .none; unbindBehindTheSuite (envOf name scope L a cd) n pos) (fun _ s₅ => Q f s₅) E s₄)
        (AsSuiteRaised (model Prog w) ((A₀.deeper (envOf name scope L a cd)).mark (some (.ref e))) (envOf name scope L a cd) n pos (notedBy (model Prog w) ((A₀.deeper (envOf name scope L a cd)).mark (some (.ref e))) (envOf name scope L a cd) (cameBackBy (model Prog w) (A₀.deeper (envOf name scope L a cd)) (envOf name scope L a cd) E)))
        { s' with heap := h', toks := tk })
    (hk : scope.kind = .function := by rfl) (hlo : (envOf name scope L a cd).kindOf n = some .local := by rfl) (hx : (envOf name scope L a cd).kindOf x = some .globalImplicit := by rfl) (hd : (x == ("__debug__" : Str)) = false := by decide) :
    wpAny (model Prog w) (A₀.deeper (envOf name scope L a cd)) (noteFrame (.ref e) (envOf name scope L a cd))
      (fun _ s₂ => wpAny (model Prog w) (A₀.deeper (envOf name scope L a cd)) (setFlight (.ref e) none) (fun _ s₃ =>
        wpAny (model Prog w) (A₀.deeper (envOf name scope L a cd)) (handleBy (.ref e) (envOf name scope L a cd) (.ExceptHandler (some (.Name x np)) (some n) (b₀ :: suite) pos :: rest)) Q E s₃) E s₂) E s' := by
  refine hideG fun G0 hG0 => ?_
  obtain ⟨B, d, oD, x1, x2, x3, x4, x5, x6, x7, x8, x9, x10⟩ := R
  refine hG0 ?_
  clear hG0
  have hL : B.get? L = none := by
    refine hideG fun G0 hG0 => ?_
    obtain ⟨_, ⟨L', _, hf, hn', _⟩, _⟩ := x4
    refine hG0 ?_
    clear hG0
    obtain rfl : L = L' := Option.some.inj hf
    exact hn'
  refine noteD (Around.frames_deeper K.stack) x4 rfl x5 x2 x3 fun h₄ ⟨y1, y2, y3, y4⟩ => ?_
  refine flightD y1 y2 y3 fun h₅ ⟨z1, z2, z3, z4⟩ => ?_
  have sm₅ := (x8.trans y4).trans z4
  refine hideG fun G0 hG0 => ?_
  obtain ⟨g₅, T₅, F₅, K₅⟩ := kts_ground K F x1 z1 sm₅
  obtain ⟨X₅, P₅⟩ := XT _ T₅
  obtain ⟨nm, q', N, bs, bm, hdct, sn, sub, ab, col, dd, k0, k1, k2, k3, k5, newId, hC, hbase, hbT⟩ := kts_cls X₅ q
  have hC₅ := F₅.keep _ _ hC
  have z3' := z3
  obtain ⟨ob, _, _, _, _, hob, hobc, _⟩ := z3'
  refine hG0 ?_
  clear hG0
  refine wpAny_handleBy_cons (codeAny_handlers_test (name_K F₅ X₅ P₅ ex ?_ hk hx hd)) (by intro q; cases q)
  refine wpAny_excMatches_sub_self hC₅ hob hobc hbase (codeAny_handlers_suite_as ?_)
  refine flightD z1 z2 z3 fun h₆ ⟨w1, w2, w3, w4⟩ => ?_
  refine hideG fun G0 hG0 => ?_
  obtain ⟨g₆, T₆, F₆, K₆⟩ := kts_ground K F x1 w1 (sm₅.trans w4)
  obtain ⟨oe, vs, T, oT, ts, hoe, hoec, hoed, hoef, _, hTn, hTe, _⟩ := w3
  refine hG0 ?_
  clear hG0
  have hdL : ∀ o, g.get? d = some o → False := fun o ho => by
    have := F.keep _ _ ho
    rw [x10] at this; cases this
  have heL : ∀ o, g.get? e = some o → False := fun o ho => by
    have := F.keep _ _ ho
    rw [x9] at this; cases this
  have none_of : ∀ b, (∀ o, g.get? b = some o → False) → g.get? b = none := fun b hb => by
    cases z : g.get? b with
    | none => rfl
    | some o => exact (hb o z).elim
  have hde : d ≠ e := fun z => by rw [z, x3] at x6; cases x6
  have N₆ : News g₆ L h₆ [(e, oe), (d, oD)] := fun q hq => by
    rcases List.mem_cons.mp hq with rfl | hq
    · refine ⟨hoe, fun z => ?_, T₆.none_ _ (none_of _ heL)⟩
      have z : e = L := z
      refine hideG fun G0 hG0 => ?_
      obtain ⟨oL, _, _, hoL, _⟩ := F.ns
      refine hG0 ?_
      clear hG0
      rw [z] at x9; rw [hoL] at x9; cases x9
    · rw [List.mem_singleton.mp hq]
      refine ⟨w1 _ _ x6, fun z => ?_, T₆.none_ _ (none_of _ hdL)⟩
      have z : d = L := z
      refine hideG fun G0 hG0 => ?_
      obtain ⟨oL, _, _, hoL, _⟩ := F.ns
      refine hG0 ?_
      clear hG0
      rw [z] at x10; rw [hoL] at x10; cases x10
  refine stN F₆ N₆ (fun h₇ F₇ N₇ => ?_) hk hlo
  exact k h₇ g₆ _ d oe oD vs T₆ F₇ N₇ hoec hoed hoef hde x7 K₆
end
-- Refused
theorem top_Refused : True := by
  w_top off
  trivial
section
variable {w : World} {mean : ExcName → Option Value} {mg mb : Str → Option Value} {A₀ A : Around} {s : Shared} {base h₀ : Heap} {outer : List Env} {L : Addr} {m : Str → Option Value} {env : Env} {rest : List (Addr × Obj)} {R : Result → Shared → Prop}
/-- into a def that is handed nothing to turn; its end is the caller's -/
theorem enterRaw {name qual : Str} {params : Arguments} {body : List Stmt} {scope : Scope} {dV kV doc pm cdv ct oc : Value} {an od : Option Addr} {osl : Array (Option Value)} {f : Addr} {vals : List Value}
    (G : Amb w mean mg mb A₀ base h₀ outer) (F : Fr h₀ L s.heap m) (N : News h₀ L s.heap rest)
    (hA : A.frames = some (env :: outer)) (hf : env.frame = some L) (hke : env.scope.kind = .function)
    (ho : (Mine.hd.heap_1 w.params).lookup f = some ⟨oc, od, .func (fnOf name qual params body scope dV kV doc pm an cdv ct), osl⟩) (hcd : codeIn (Mine.hd.heap_1 w.params) cdv qual = true) (hroom : A.depth < recursionLimit)
    (hbind : BindsTo s (fnOf name qual params body scope dV kV doc pm an cdv ct) ⟨vals, []⟩ ((params.args.map (·.arg)).zip vals)) (hloc : ∀ y ∈ (params.args.map (·.arg)).zip vals, scope.names.lookup y.1 = some .local)
    (h : ∀ g L' h₁ tk, Fr h₀ L g m → Fr g L' h₁ (fun y => ((params.args.map (·.arg)).zip vals).reverse.lookup y) → Amb w mean mg mb A base g (env :: outer) → (∀ b o, s.heap.get? b = some o → g.get? b = some o) →
      wpAny (model Prog w) (A.deeper (envOf qual scope L' f cdv)) (execs body (envOf qual scope L' f cdv))
        (fun fl s' => R (.ok (.ret (match fl with | .ret v => v | _ => .none))) s')
        (fun e s' => wpAny (model Prog w) (A.deeper (envOf qual scope L' f cdv)) (leaving (envOf qual scope L' f cdv) e) (fun _ s'' => R (.error e) s'') (fun e' s'' => R (.error e') s'') s')
        { s with heap := h₁, toks := tk })
    (hcell : ∀ x ∈ scope.names, x.2 ≠ .cell) (hco : scope.isCoroutine = false := by rfl) (hgen : scope.isGenerator = false := by rfl) (hk : scope.kind = .function := by rfl) : codeAny (model Prog w) A (.call (.ref f) ⟨vals, []⟩) R s := by
  obtain ⟨g, hg, FG, GG, up, st, _⟩ := ground (own := []) (rest := rest) (R := R) G F N (fun _ h => nomatch h) hA hf hke
  have X := G.X.keeps F.keep
  refine codeAny_call_def (fd := fnOf name qual params body scope dV kV doc pm an cdv ct) (body := body) hroom (X _ _ ho) rfl (G.T.nolimit.keeps F.keep) (codeRec_of X hcd) rfl hbind hcell hloc (fun h₁ hns hk₁ => ?_) hco hgen hk
  exact h g s.heap.objs.size h₁ _ FG ⟨hns, fun b o e => hk₁ b o (up b o e), by rw [hg]; exact Nat.le_of_eq (hideAll_size _ _)⟩ GG fun b o e => st b o e (fun h => nomatch h)
end
/-- back in a caller that stands at the bottom -/
theorem backR {g g' h₀ h : Heap} {L L' : Addr} {m m' : Str → Option Value} {rest : List (Addr × Obj)} (T : KtsTurn [L] g g') (FG : Fr h₀ L g m) (hr : ∀ p ∈ rest, g.get? p.1 = some p.2 ∧ p.1 ≠ L ∧ h₀.get? p.1 = none) (F : Fr g' L' h m') : Fr h₀ L h m ∧ News h₀ L h rest := by
  refine ⟨⟨?_, fun b o hb => ?_, FG.above⟩, fun p hp => ?_⟩
  · obtain ⟨oL, es, ep, h1, h2, h3, h4⟩ := FG.ns
    obtain ⟨sl, h5⟩ := T.frame L oL h1 (.head _)
    exact ⟨_, es, ep, F.keep _ _ h5, h2, h3, h4⟩
  · refine F.keep _ _ (T.other b o (FG.keep b o hb) fun hm => ?_)
    rw [List.mem_singleton.mp hm] at hb
    exact Nat.lt_irrefl _ (Nat.lt_of_lt_of_le (Heap.lt_size hb) FG.above)
  · obtain ⟨h1, h2, h3⟩ := hr p hp
    exact ⟨F.keep _ _ (T.other _ _ h1 fun hm => h2 (List.mem_singleton.mp hm)), h2, h3⟩
local macro_rules | `(tactic| walk_at "exec Try") => `(tactic| refine wpAny_Try_except ?_)
local macro_rules | `(tactic| walk_at "call ref") => `(tactic| refine halt_of ?_)
theorem refused_c {w : World} {P S : Addr} {K M : List Kl} {q : Kl} {eP eS : Nat} (hK : KOk 5 K) (hM : MOk 5 (M ++ [q])) (hKl : K.length ≤ 7) (hMl : M.length ≤ 3)
    {mean : ExcName → Option Value} {mg mb : Str → Option Value} {dp un : Nat} {gd : Option (List Code)} {cn : Str} {cs : Scope} {a : Addr} {ccd : Value} {cl : List (Str × Addr)} {A₀ : Around} {base h₀ : Heap} {L : Addr}
    {m : Str → Option Value} {rest : List (Addr × Obj)} {s : Shared} {Q E : Value → Shared → Prop} (G : Amb w mean mg mb A₀ base h₀ []) (hk : cs.kind = .function) (F : Fr h₀ L s.heap m) (N : News h₀ L s.heap rest)
    (himm : ∀ p ∈ (P, listOf (K.map Kl.rf).toArray eP) :: (S, listOf (M.map Kl.rf).toArray eS) :: q.ob :: (K.map Kl.ob ++ M.map Kl.ob), s.heap.get? p.1 = some p.2)
    (hd : dp + 30 < recursionLimit) (hu : un + 300 < cLine)
    (hret : ∀ n t h' tk, FW (Kl.cls K) (Kl.cls (M ++ [q])) 0 n → Fr h₀ L h' m → News h₀ L h' rest → Q (.int n t) { s with heap := h', toks := tk }) :
    wpAny (model Prog w) (ktrTop dp un gd cn cs L a ccd cl []) (call (.ref 199) [.ref P, .ref S, .ref q.a]) Q E s := by
  refine wpAny_call ?_
  k_dflt (refine' enterRaw ?k1 ?k2 ?k3 ?kA ?kF ?kK ?k6 ?k7 ?k8 ?k9 ?kB ?_ ?c5 ?c2 ?c3 ?c4; (case kA => exact rfl); (case kF => exact rfl); (case kK => assumption); (case k1 => assumption); (case k2 => assumption); (case k3 => assumption); (case k6 => k_is); (case k7 => k_is); (case k8 => (show _ < recursionLimit; dsimp only [ktrTop]; omega)); (case k9 => exact BindsTo.of_eq rfl); (case c5 => decide); (case kB => exact locs rfl); (case c2 => exact rfl); (case c3 => exact rfl); (case c4 => exact rfl); k_whole)
  simp only [List.map_cons, List.map_nil, List.zip_cons_cons, List.zip_nil_right, List.zip_nil_left, List.reverse_cons, List.reverse_nil, List.nil_append, List.cons_append]
  intro g L' h₁ tk₁ FG F' G' st
  have hr : ∀ p ∈ rest, g.get? p.1 = some p.2 ∧ p.1 ≠ L ∧ h₀.get? p.1 = none := fun p hp => ⟨st _ _ (N p hp).1, (N p hp).2⟩
  have hI : ∀ p ∈ (P, listOf (K.map Kl.rf).toArray eP) :: (S, listOf (M.map Kl.rf).toArray eS) :: q.ob :: (K.map Kl.ob ++ M.map Kl.ob), g.get? p.1 = some p.2 := fun p hp => st _ _ (himm p hp)
  have hgP := hI _ (.head _)
  have hgS := hI _ (.tail _ (.head _))
  have hgq := hI _ (.tail _ (.tail _ (.head _)))
  have ⟨B', X', T'⟩ := G'
  clear F N himm
  try dsimp only
  try k_fold
  walk_at "MINE go"
  refine halt_mk ?_
  refine clog_c (eP := eP) (eS := eS) (rest := []) hK hM hKl hMl G' rfl F' (fun _ h => nomatch h) (fun p hp => F'.keep _ _ (hI p hp)) (by walk_at "MINE room") (by walk_at "MINE room") rfl ?ok ?exc
  case ok =>
    intro hFW h₂ tk₂ F₂ N₂
    clear F'
    try dsimp only
    try k_fold
    walk_at "MINE go"
    obtain ⟨F9, N9⟩ := backR KtsTurn.refl FG hr F₂
    exact hret _ _ _ _ hFW F9 N9
  case exc =>
    intro e n what t h₂ tk₂ hFW hFl
    try dsimp only
    have up : ∀ g', KtsTurn [L] g g' → ∀ b o, h₀.get? b = some o → g'.get? b = some o := fun g' T b o hb => T.other b o (FG.keep b o hb) fun hm => by
      rw [List.mem_singleton.mp hm] at hb
      exact Nat.lt_irrefl _ (Nat.lt_of_lt_of_le (Heap.lt_size hb) FG.above)
    refine caughtD (KF := Mine.hd.heap_1 w.params) hFl F' B' (fun g' T => ⟨G.X.keeps (up g' T), (topRead_of G.T).keeps (up g' T)⟩) (by k_is) (by rfl) ?_
    intro h₃ g' tk₃ d oe oD vs T F₃ N₃ hc hdd hda hde hns B₃
    try k_fold
    walk_at "MINE go"
    refine exc_get ((G.X.keeps (up g' T)).keeps F₃.keep) (by k_is) ⟨oe, (N₃ _ (.head _)).1, hc, (fun c z => by rw [hda] at z; cases z), .inr ⟨d, hdd, hde, hns _ _ (N₃ _ (.tail _ (.head _))).1⟩⟩ faultMap_step rfl ?_
    try dsimp only [qk]
    refine name_goes_keeps F₃ N₃ (fun h₄ v F₄ N₄ => ?_)
    obtain ⟨F9, N9⟩ := backR T FG hr F₄
    exact hret _ _ _ _ hFW F9 N9
-- CompL
theorem top_CompL : True := by
  w_top off
  trivial
theorem mem3 {α : Type} {p a b c : α} (h : p ∈ [a, b, c]) : p = a ∨ p = b ∨ p = c := by simpa using h
theorem sep_new {a d : Addr} {o o' : Obj} {rest : List (Addr × Obj)} {x : Addr × Obj} (h : ∀ q ∈ (d, o) :: rest, a ≠ q.1) (hx : a ≠ x.1) : ∀ q ∈ (d, o') :: (rest ++ [x]), a ≠ q.1 := fun q hq => by
  rcases List.mem_cons.mp hq with rfl | hq
  · exact h (d, o) (.head _)
  rcases List.mem_append.mp hq with hq | hq
  · exact h q (.tail _ hq)
  · rw [List.mem_singleton.mp hq]; exact hx
section
variable {w : World} {A : Around} {E : Value → Shared → Prop} {s : Shared} {env : Env} {h₀ : Heap} {σ : Type} {m : Str → Option Value} {elt target iter : Expr} {ifs : List Expr} {scope : Scope} {cl : List (Str × Addr)} {pos : Pos}
theorem comp_rangeL {r : Addr} {a b : Int} {t₀ u₀ v₀ : Tok} {n : Nat} {RR : Value → Addr → Result → Shared → Prop} (led : σ → List (Addr × Obj)) (J : Nat → List Value → σ → Prop) (c₀ : σ)
    (hh : A.handled = none) (hr : IsRange s.heap r a b 1 t₀ u₀ v₀) (hsmall : Builtin.Range.small a b 1 = true) (hn : Builtin.Range.rangeSize a b 1 = (n : Int)) (hsz : n ≤ sizeLine) (hcell : ∀ y ∈ scope.names, y.2 ≠ .cell) (hkind : scope.kind = .function)
    (F : Fr h₀ env.locals s.heap m) (N : News h₀ env.locals s.heap (led c₀)) (hJ : J 0 [] c₀)
    (ht : ∀ I v, letOwnedTupleGo target (.ref I) v = pure ())
    (turn : ∀ (i : Nat) t ys c (u : Str → Option Value) h tk C D I nD oL oI E₂, i < n → ys.length ≤ i → J i ys c → (∀ p ∈ [(env.locals, oL), (I, oI), (D, listOf ys.toArray nD)], ∀ q ∈ led c, p.1 ≠ q.1) → (∀ b o, h₀.get? b = some o → b < C) →
      Fr h₀ C h u → News h₀ C h ([(env.locals, oL), (I, oI), (D, listOf ys.toArray nD)] ++ led c) → (∀ h' : Heap, h'.get? env.locals = some oL → h'.Ns env.locals m) → @Ne Nat env.locals I → @Ne Nat env.locals D →
      wpAny (model Prog w) A (assign target (compEnvC scope cl C env) (.int (a + (i : Int)) t)) (fun _ s₂ => wpAny (model Prog w) A (TestTree ifs (compEnvC scope cl C env)) (fun ok s₃ =>
        if ok = true then wpAny (model Prog w) A (eval elt (compEnvC scope cl C env)) (fun y s₄ => EltEndL h₀ env.locals m C (I, oI) (D, listOf ys.toArray nD) led (J (i + 1) (ys ++ [y])) { s with heap := h, toks := tk } s₄) E₂ s₃
        else EltEndL h₀ env.locals m C (I, oI) (D, listOf ys.toArray nD) led (J (i + 1) ys) { s with heap := h, toks := tk } s₃) E₂ s₂) E₂ { s with heap := h, toks := tk })
    (hRR : ∀ D C h' tk mC c ys nD, J n ys c → Fr h₀ env.locals h' m → News h₀ env.locals h' ((D, listOf ys.toArray nD) :: led c) → (∀ p ∈ led c, p.1 ≠ D) → h'.Ns C mC → C ≠ env.locals → C ≠ D → (∀ p ∈ led c, p.1 ≠ C) → h₀.get? C = none →
      RR (.ref D) C (.ok .next) { s with heap := h', toks := tk }) :
    wpAny (model Prog w) A (pyIter (.ref r)) (fun it s₂ => CompGo w A env elt target iter ifs scope cl pos RR E it s₂) E s := by
  refine wpAny_pyIter_range hr hsmall ⟨_, rfl, ?_⟩
  have W := Walks.range (prog := Prog) (w := w) hh s.heap.objs.size a 1 n
  refine comp_coreL (s := { s with heap := _ }) led J c₀ W hsz hcell hkind ?_ ?_ (next_is_new F) (fun p hp => Nat.ne_of_lt (Heap.lt_size (N p hp).1)) (by show IsRangeIter _ _ _ _ _; rw [hn]; simpa using Heap.get?_push_size _ rfl) (F.push _) (fun p hp => ⟨Heap.get?_push_of_some _ (N p hp).1, (N p hp).2⟩) hJ ?_ ?_ (fun i v h hP hst s' Q E' _ q => wpAny_of_eq (ht _ v) q) ?_ hRR
  · intro hm
    exact absurd F.ns.lt ((List.mem_singleton.mp hm) ▸ Nat.lt_irrefl _)
  · intro b hb
    show b < (s.heap.push _).objs.size
    rw [Heap.size_push, List.mem_singleton.mp hb]
    exact Nat.lt_succ_self _
  · intro b hb hbI
    exact absurd (List.mem_singleton.mp hb) hbI
  · intro i h hst
    exact ⟨_, hst⟩
  · rintro i v ys c u h tk C D nD oL oI E₂ hi ⟨t, rfl⟩
    have e1 : a + (i : Int) * 1 = a + (i : Int) := by omega
    rw [e1]
    exact turn i t ys c u h tk C D _ nD oL oI E₂ hi

end
/-- only the named names are kept -/
theorem Fr_names {h₀ h : Heap} {L : Addr} {m : Str → Option Value} {ps : List (Str × Value)} (F : Fr h₀ L h m) (hm : ∀ p ∈ ps, m p.1 = some p.2) : ∃ u, Fr h₀ L h (kstB u ps) := ⟨m, by rw [kstB_self hm]; exact F⟩
/-- a triple is used within a block -/
theorem Does.useB {w : World} {f : Addr} {args : List Value} {own imm : List (Addr × Obj)} {n : Nat} {Post : Value → List (Addr × Obj) → Prop} {mean : ExcName → Option Value} {mg mb : Str → Option Value} {dp un : Nat} {gd : Option (List Code)} {cn : Str} {cs : Scope} {a : Addr} {ccd : Value} {cl : List (Str × Addr)} {outer : List Env} {A₀ : Around} {base h₀ : Heap} {L C : Addr}
    {m u : Str → Option Value} {news : List (Addr × Obj)} {s : Shared} {Q E : Value → Shared → Prop} {oL : Obj} (rest : List (Addr × Obj)) (D : Does w f args own imm n Post)
    (G : Amb w mean mg mb A₀ base h₀ outer) (hk : cs.kind = .function) (hL : h₀.objs.size ≤ L) (hLm : ∀ h' : Heap, h'.get? L = some oL → h'.Ns L m) (F : Fr h₀ C s.heap u) (N : News h₀ C s.heap news) (hoL : (L, oL) ∈ news) (hin : ∀ p ∈ own ++ rest, p ∈ news) (hoff : ∀ p ∈ own ++ rest, p.1 ≠ L) (hsep : ∀ p ∈ own, ∀ q ∈ rest, p.1 ≠ q.1) (himm : ∀ p ∈ imm, h₀.get? p.1 = some p.2 ∨ p ∈ rest)
    (hd : dp + n < recursionLimit) (hu : un + 10 * n < cLine)
    (k : ∀ r own' h' tk oL', Post r own' → (∀ h'' : Heap, h''.get? L = some oL' → h''.Ns L m) → Fr h₀ C h' u → News h₀ C h' ((L, oL') :: (own' ++ rest)) → (∀ p ∈ own', ∀ q ∈ rest, p.1 ≠ q.1) → (∀ p ∈ own', p.1 ≠ L) → Q r { s with heap := h', toks := tk }) :
    wpAny (model Prog w) (ktrTop dp un gd cn cs L a ccd cl outer) (call (.ref f) args) Q E s := by
  obtain ⟨oC, esC, epC, hoC, hCd, hCk, hCf⟩ := id F.ns
  have nL := N _ hoL
  dsimp only at nL
  have hCn : h₀.get? C = none := by
    cases e : h₀.get? C with
    | none => rfl
    | some o => exact absurd (Nat.lt_of_lt_of_le (Heap.lt_size e) F.above) (Nat.lt_irrefl _)
  have FL : Fr h₀ L s.heap m := ⟨hLm _ nL.1, F.keep, hL⟩
  have NL : News h₀ L s.heap ((C, oC) :: news.filter (fun p => p.1 != L)) := fun p hp => by
    rcases List.mem_cons.mp hp with rfl | hp
    · exact ⟨hoC, Ne.symm nL.2.1, hCn⟩
    · obtain ⟨h1, h2⟩ := List.mem_filter.mp hp
      exact ⟨(N p h1).1, by simpa using h2, (N p h1).2.2⟩
  refine Does.use (news := (C, oC) :: news.filter (fun p => p.1 != L)) ((C, oC) :: rest) D G hk FL NL (fun p hp => ?_) (fun p hp q hq => ?_) (fun p hp => (himm p hp).imp id (fun h => .tail _ h)) hd hu ?_
  · rcases List.mem_append.mp hp with h | h
    · exact .tail _ (List.mem_filter.mpr ⟨hin p (List.mem_append_left _ h), by simpa using hoff p (List.mem_append_left _ h)⟩)
    · rcases List.mem_cons.mp h with rfl | h
      · exact .head _
      · exact .tail _ (List.mem_filter.mpr ⟨hin p (List.mem_append_right _ h), by simpa using hoff p (List.mem_append_right _ h)⟩)
  · rcases List.mem_cons.mp hq with rfl | hq
    · exact (N p (hin p (List.mem_append_left _ hp))).2.1
    · exact hsep p hp q hq
  · intro r own' h' tk hP F' N' S'
    obtain ⟨oL', es, ep, h1, h2, h3, h4⟩ := F'.ns
    have hC' := (N' (C, oC) (List.mem_append_right _ (.head _))).1
    refine k r own' h' tk oL' hP (fun h'' e => ⟨oL', es, ep, e, h2, h3, h4⟩) ⟨⟨oC, esC, epC, hC', hCd, hCk, hCf⟩, F'.keep, F.above⟩ (fun p hp => ?_) (fun p hp q hq => S' p hp q (.tail _ hq)) (fun p hp => (N' p (List.mem_append_left _ hp)).2.1)
    rcases List.mem_cons.mp hp with rfl | hp
    · exact ⟨h1, nL.2.1, nL.2.2⟩
    rcases List.mem_append.mp hp with h | h
    · exact ⟨(N' p (List.mem_append_left _ h)).1, S' p h _ (.head _), (N' p (List.mem_append_left _ h)).2.2⟩
    · exact ⟨(N' p (List.mem_append_right _ (.tail _ h))).1, (N p (hin p (List.mem_append_right _ h))).2.1, (N' p (List.mem_append_right _ (.tail _ h))).2.2⟩
-- Shown
theorem top_Shown : True := by
  w_top off
  trivial
theorem leaves_ints : ∀ xs : List Int, (∀ n ∈ xs, n.natAbs ≤ 4) → PyData.leavesShortAll 13 (xs.map .int) = true
  | [], _ => by simp only [List.map_nil, PyData.leavesShortAll]
  | x :: xs, h => by
    have hx := h x (.head _)
    simp only [List.map_cons, PyData.leavesShortAll, PyData.leavesShort, Bool.and_eq_true, decide_eq_true_eq]
    exact ⟨PyData.shown_int_le2 (by omega) (by omega), leaves_ints xs fun n hn => h n (.tail _ hn)⟩
theorem bulk_ints : ∀ xs : List Int, PyData.bulkAll (xs.map .int) = xs.length
  | [] => by simp only [List.map_nil, PyData.bulkAll, List.length_nil]
  | x :: xs => by simp only [List.map_cons, PyData.bulkAll, PyData.bulk, bulk_ints xs, List.length_cons]; omega
/-- a result: none, or a list of ints -/
def Due (r : Option (List Int)) (v : Value) (own : List (Addr × Obj)) : Prop := match r with
  | none => v = .none ∧ own = []
  | some xs => ∃ D us e, v = .ref D ∧ own = [(D, listOf (List.toArray us) e)] ∧ IntsAre us xs
def Few (r : Option (List Int)) : Prop := ∀ xs, r = some xs → xs.length ≤ 5 ∧ ∀ x ∈ xs, x.natAbs ≤ 4
def text (r : Option (List Int)) : Str := match r with
  | none => "None"
  | some xs => (PyData.list (xs.map .int)).shown
theorem repr_due {w : World} {A : Around} {E : Value → Shared → Prop} {s : Shared} {h₀ : Heap} {L : Addr} {m : Str → Option Value} {own news : List (Addr × Obj)} {r : Option (List Int)} {v : Value} {Q : Value → Shared → Prop}
    (hr : Due r v own) (hf : Few r) (F : Fr h₀ L s.heap m) (N : News h₀ L s.heap news) (hin : ∀ p ∈ own, p ∈ news) (hg : A.guards = some []) (hu : A.units + 10 < cLine)
    (hQ : ∀ h' u tk, Fr h₀ L h' m → News h₀ L h' news → Q (.str (text r) u) { s with heap := h', toks := tk }) : wpAny (model Prog w) A (call (.builtin "repr") [v]) Q E s := by
  cases r with
  | none =>
    obtain ⟨rfl, rfl⟩ := hr
    exact P.repr_of_none (hQ s.heap _ _ F N)
  | some xs =>
    obtain ⟨D, us, e, rfl, rfl, hus⟩ := hr
    obtain ⟨h1, h2⟩ := hf xs rfl
    refine repr_of_reads' (h₀ := s.heap) (d := PyData.list (xs.map .int)) (as := D :: []) (Reads.list (News.get N (hin _ (.head _))) rfl rfl (hus.reads _)) ?_ ?_ hg ?_ (fun _ _ e => e) (fun h' u tk hk => hQ h' u tk (F.keptAll hk) (N.grown hk)) ?_
    · simp only [PyData.showable]
      refine PyData.showableAll_ints _ fun n hn => ?_
      have := h2 n hn
      have h3 : n.natAbs.log2 ≤ n.natAbs := Nat.log2_le_self _
      omega
    · intro h; simp only [PyData.hasDict] at h
      exfalso
      revert h
      clear h1 h2 hus hf hin hQ
      induction xs with
      | nil => simp [PyData.hasDictAll]
      | cons x xs ih => simpa [PyData.hasDictAll, PyData.hasDict] using ih
    · have : PyData.depth (PyData.list (xs.map .int)) ≤ 1 := by
        simp only [PyData.depth]
        clear h1 h2 hus hf hin hQ
        induction xs with
        | nil => simp [PyData.depthAll]
        | cons x xs ih => simpa [PyData.depthAll, PyData.depth] using ih
      omega
    · refine PyData.shown_fits_bulk (B := 13) (by decide) (by decide) ?_ ?_
      · simp only [PyData.leavesShort]; exact leaves_ints xs h2
      · simp only [PyData.bulk]; rw [bulk_ints]
        have e : (2 : Nat) ^ 20 = 1048576 := by decide
        omega
theorem der_small {cls : List (List Int)} {lits : List Int} (hc : ∀ c ∈ cls, ∀ x ∈ c, x.natAbs ≤ 4) (hl : ∀ x ∈ lits, x.natAbs ≤ 4) {l : Int} (h : Der cls lits l) : l.natAbs ≤ 4 := by
  cases h with
  | base h => exact hl _ h
  | unit h1 h2 _ => exact hc _ h1 _ h2
theorem isUP_few {cls : List (List Int)} {lits : List Int} {r : Option (List Int)} (hc : ∀ c ∈ cls, ∀ x ∈ c, x.natAbs ≤ 4) (hl : ∀ x ∈ lits, x.natAbs ≤ 4) (h : IsUP cls lits r) : Few r := by
  rintro xs rfl
  obtain ⟨_, h2, h3⟩ := h
  have h4 : ∀ x ∈ xs, x.natAbs ≤ 4 := fun x hx => der_small hc hl ((h2 x).mp hx)
  refine ⟨?_, h4⟩
  have h5 : (xs.map Int.natAbs).Nodup := by
    rw [List.nodup_iff_pairwise_ne, List.pairwise_map]
    exact h3.imp fun {a b} h e => by omega
  have h6 : (xs.map Int.natAbs) ⊆ [0, 1, 2, 3, 4] := by
    intro x hx
    obtain ⟨l, hl, rfl⟩ := List.mem_map.mp hx
    have := h4 l hl
    have : l.natAbs = 0 ∨ l.natAbs = 1 ∨ l.natAbs = 2 ∨ l.natAbs = 3 ∨ l.natAbs = 4 := by omega
    simpa using this
  simpa using h5.length_le_of_subset h6
theorem kok_small {n : Nat} {K : List Kl} (h : KOk n K) : ∀ c ∈ Kl.cls K, ∀ x ∈ c, x.natAbs ≤ 4 := by
  intro c hc x hx
  obtain ⟨k, hk, rfl⟩ := List.mem_map.mp hc
  exact (h k hk).2.1.2 x hx
theorem fpost_due {cls : List (List Int)} {ls : List Int} {v : Value} {own : List (Addr × Obj)} (h : FPost cls ls v own) : ∃ r, IsUP cls ls r ∧ Due r v own := by
  obtain ⟨r, h1, h2⟩ := h
  refine ⟨r, h1, ?_⟩
  cases r <;> exact h2
-- the law
local macro_rules | `(tactic| k_qdec) => `(tactic| ((first | rewrite [PySem.W.Fast.te17448422675489707002] | rewrite [PySem.W.Fast.te2458874890965802552]); kernel_rfl))
local macro_rules | `(tactic| walk_at "call ref") => `(tactic| refine halt_of ?_)
local macro_rules | `(tactic| walk_at "eval IfExp") => `(tactic| refine halt_of ?_)
local macro_rules | `(tactic| walk_at "call builtin:repr") => `(tactic| refine halt_of ?_)
local macro_rules | `(tactic| walk_at "subscriptTail Name Slice ref ref") => `(tactic| ((with_reducible show wpAny _ _ (subscriptTail (PySem.Expr.Name (PySem.Str.ofString "clauses") _) _ _ _) _ _ _); refine halt_of ?_))
theorem top_law : True := by
  w_top off
  trivial
theorem law_holds : PySem.Challenge.rw_nu0243_01.Holds := Mine.hd (by
  k_go0
  (all_goals try k_fold)
  rename_i w s₀ s₁ mg mb Gr Yk fa oFa pm doc ho hg KX Xm V GL T Bt TE TW wa wo M wb wc hcd ns hs hlay0 hLl hr0 hl2 wd we scr vs wf hL ra w1 r0 hI hr1 hc1 hc2 K0 hD h₁ tk₁ F oC1 oC2 hoC1 hoC2 N0 X0
  have hEnd : ∀ h' tk m', Fr s₁.heap s₁.heap.objs.size h' m' → qk (.ret (.bool true)) { s₁ with heap := h', toks := tk } := by
    intro h' tk m' F9
    show GoodW _ _ _ _ _ (.ok (.ret (.bool true))) _
    refine goodW_bool F9 hg (raisesW_false ?_) ?_
    · wrow_none_raised
    · first | kc_post | wrow_post
  have hA : Amb w (ExcName.means s₀.heap) mg mb callerA s₁.heap s₁.heap [] := ⟨K0, KX, T⟩
  have hlen : ns.length ≤ 63 := by omega
  replace hoC1 : oC1.data = .cell none := hoC1
  replace hoC2 : oC2.data = .cell none := hoC2
  obtain ⟨mF, F0, hmF⟩ : ∃ mF : Str → Option Value, Fr s₁.heap s₁.heap.objs.size h₁ mF ∧ mF (Str.ofString "script") = some (.ref scr) := ⟨_, F, rfl⟩
  clear F
  have F : Fr s₁.heap s₁.heap.objs.size h₁ (kstB mF [(Str.ofString "script", .ref scr)]) := by
    rw [kstB_self (List.forall_mem_singleton.mpr hmF)]; exact F0
  dsimp only [kstB] at F
  clear F0 hmF
  clear X0 hD T K0 hc1 hc2 hr1 r0 w1 ra hl2 hr0 hLl hlay0 hs hcd M TE TW Bt GL V Xm KX ho Yk Gr wd we wf wa wo
  as_aux_lemma =>
    w_top off
    have ⟨B', X', T'⟩ := hA
    walk_at "MINE go"
    refine halt_mk ?_
    rename_i dF hp0 oE loE hdE l1 D0 cs hp1 hcs hcl hcl2 l2 D1 c1 hp2 l3 hp3 oF hdF hp4 oK F1 N1 hoK
    have hFd : Feed w D1 0 oF := ⟨_, hdF⟩
    have N2 : News s₁.heap s₁.heap.objs.size hp4 [(dF, oF), (D1, listOf cs.toArray c1), (s₁.heap.objs.size + 1, oK), (s₁.heap.objs.size + 1 + 1, oC1)] := fun p hp => N1 p (by
      revert p
      walk_at "MINE sub")
    obtain ⟨d1, d2, d3, d4, d5⟩ : @LT.lt Nat _ (s₁.heap.objs.size + 1) dF ∧ @LT.lt Nat _ (s₁.heap.objs.size + 1 + 1) dF ∧ @LT.lt Nat _ (s₁.heap.objs.size + 1) D1 ∧ @LT.lt Nat _ (s₁.heap.objs.size + 1 + 1) D1 ∧ @LT.lt Nat _ dF D1 := by omega
    have hcl9 : (ns.take 40).length ≤ 40 := by rw [List.length_take]; omega
    clear hdE loE l1 l2 l3 hdF N1 hoC2 hcl hcl2
    refine Does.use [(D1, listOf cs.toArray c1), (s₁.heap.objs.size + 1, oK), (s₁.heap.objs.size + 1 + 1, oC1)] (next_c (n := c1) hFd hcs hcl9 (by omega) (by omega) (by omega) (by omega)) hA rfl F1 N2 (fun p hp => hp) (by walk_at "MINE sep") (fun p hp => .inr (by rw [List.mem_singleton.mp hp]; exact .head _)) (by decide) (by decide) ?_
    rintro v9 own9 h₂ tk₂ hJ9 F2 N3 S3
    refine hideG fun G0 hG0 => ?_
    obtain ⟨r2, t2, o2, rfl, rfl, q2a, q2b, hFd2⟩ := hJ9
    refine hG0 ?_
    clear hG0
    clear F1 N2 S3 hFd
    simp only [List.cons_append, List.nil_append] at N3
    try dsimp only
    walk_at "MINE go"
    refine halt_mk ?_
    refine Does.use [(D1, listOf cs.toArray c1), (s₁.heap.objs.size + 1, oK), (s₁.heap.objs.size + 1 + 1, oC1)] (next_c (n := c1) hFd2 hcs hcl9 (by omega) (by omega) (by omega) (by omega)) hA rfl F2 N3 (fun p hp => hp) (by walk_at "MINE sep") (fun p hp => .inr (by rw [List.mem_singleton.mp hp]; exact .head _)) (by decide) (by decide) ?_
    rintro v9 own9 h₃ tk₃ hJ9 F3 N4 S4
    refine hideG fun G0 hG0 => ?_
    obtain ⟨r3, t3, o3, rfl, rfl, q3a, q3b, hFd3⟩ := hJ9
    refine hG0 ?_
    clear hG0
    clear F2 N3 S4 hFd2
    simp only [List.cons_append, List.nil_append] at N4
    try dsimp only
    walk_at "MINE go"
    rename_i D2 hq0 l9 hq1 hq2 oW hoW hq3 h4 tk4 t4 u4 v4 R4 F4 N4' up4
    have N5 : News s₁.heap s₁.heap.objs.size h4 [(dF, o3), (D1, listOf cs.toArray c1), (s₁.heap.objs.size + 1, oK), (s₁.heap.objs.size + 1 + 1, oW)] := fun p hp => N4' p (.tail _ hp)
    clear N4' l9 up4 hoC1
    refine halt_mk ?_
    as_aux_lemma =>
      w_top off
      refine comp_rangeL (σ := List Kl × Obj) (n := (2 + r3).toNat) (fun c => (dF, c.2) :: (D1, listOf cs.toArray c1) :: (s₁.heap.objs.size + 1, oK) :: (s₁.heap.objs.size + 1 + 1, oW) :: c.1.map Kl.ob)
        (fun i ys c => ys = c.1.map Kl.rf ∧ c.1.length = i ∧ KOk 5 c.1 ∧ Feed w D1 (2 + i) c.2 ∧ ∀ p ∈ c.1.map Kl.ob, @Ne Nat dF p.1) ([], o3) rfl R4 ?ks ?kn (by rw [sizeLine_eq]; omega) (by decide) rfl F4 (fun p hp => N5 p (by simpa using hp)) ⟨rfl, rfl, fun _ h => (nomatch h), hFd3, fun _ h => (nomatch h)⟩ (fun _ _ => rfl) ?cturn (rr_assign rfl rfl ?cdone)
      case ks => exact small_one (by omega) (by omega) (by omega) (by omega)
      case kn => rw [rangeSize_nat]; omega
      case cturn =>
        rintro i t5 ys ⟨K, oF⟩ u5 h5 tk5 C D I nD oL oI E₂ hi hys hJ9 hoff hbC F5 N6 hLm hLI hLD
        refine hideG fun G0 hG0 => ?_
        obtain ⟨rfl, hKi, hKo, hFd, hsK⟩ := hJ9
        refine hG0 ?_
        clear hG0
        dsimp only at hoff F5 N6 hKi hKo hFd hsK
        refine turn_name (by decide) rfl F5 N6 fun h6 tk6 F6 N7 => wpAny_tests_nil ?_
        clear F5 N6
        simp only [if_true]
        simp only [List.cons_append, List.nil_append] at N7
        try k_fold
        walk_at "MINE go"
        refine halt_mk ?_
        have hoL := hoff _ (.head _)
        have hoI := hoff _ (.tail _ (.head _))
        have hoD := hoff _ (.tail _ (.tail _ (.head _)))
        have hsep : ∀ p ∈ K.map Kl.ob, @Ne Nat dF p.1 := fun p hp => hsK p hp
        refine Does.useB ((I, oI) :: (D, listOf (K.map Kl.rf).toArray nD) :: (D1, listOf cs.toArray c1) :: (s₁.heap.objs.size + 1, oK) :: (s₁.heap.objs.size + 1 + 1, oW) :: K.map Kl.ob) (clause_c (n := c1) hFd hcs hcl9 (by omega) (by omega) (by omega) (by omega)) hA rfl (Nat.le_refl _) hLm F6 N7 (.head _) ?g1 ?g2 ?g3 ?g4 (by decide) (by decide) ?_
        case g1 =>
          walk_at "MINE sub"
        case g2 =>
          intro p hp
          simp only [List.mem_append, List.mem_cons, List.not_mem_nil, or_false] at hp
          rcases hp with rfl | rfl | rfl | hp
          · exact fun z => hoL _ (.head _) z.symm
          · exact fun z => hLI z.symm
          · exact fun z => hLD z.symm
          · exact fun z => hoL p (by simp only [List.mem_cons]; exact .inr hp) z.symm
        case g3 =>
          intro p hp q hq
          rw [List.mem_singleton.mp hp]
          simp only [List.mem_cons] at hq
          rcases hq with rfl | rfl | rfl | rfl | rfl | hq
          · exact fun z => hoI _ (.head _) z.symm
          · exact fun z => hoD _ (.head _) z.symm
          · show @Ne Nat _ _; omega
          · show @Ne Nat _ _; omega
          · show @Ne Nat _ _; omega
          · exact hsK q hq
        case g4 =>
          intro p hp
          rw [List.mem_singleton.mp hp]
          exact .inr (.tail _ (.tail _ (.head _)))
        rintro v9 own9 h7 tk7 oL7 hJ9 hLm7 F7 N8 S8 S9
        refine hideG fun G0 hG0 => ?_
        obtain ⟨t, o7, us, cl, rfl, rfl, htd, hFd7, hus, hpr, hsm⟩ := hJ9
        refine hG0 ?_
        clear hG0
        simp only [List.cons_append, List.nil_append] at N8
        clear F6 N7
        have hSt : ∀ q ∈ (I, oI) :: (D, listOf (K.map Kl.rf).toArray nD) :: (D1, listOf cs.toArray c1) :: (s₁.heap.objs.size + 1, oK) :: (s₁.heap.objs.size + 1 + 1, oW) :: K.map Kl.ob, @Ne Nat t q.1 := S8 (t, tup us) (.tail _ (.head _))
        have hS9 : @Ne Nat t s₁.heap.objs.size := S9 (t, tup us) (.tail _ (.head _))
        have eK : (K ++ [(⟨t, us, cl⟩ : Kl)]).map Kl.ob = K.map Kl.ob ++ [(t, tup us)] := by simp [Kl.ob]
        refine ⟨(K ++ [(⟨t, us, cl⟩ : Kl)], o7), h7, tk7, _, oL7, rfl, hLm7, F7, (fun p hp => N8 p ?_), (fun p hp q hq => ?_), ?_, ?_, ?_, ?_, ?_⟩
        · dsimp only at hp
          rw [eK] at hp
          revert p
          walk_at "MINE sub"
        · dsimp only at hq
          rw [eK] at hq
          rcases mem3 hp with rfl | rfl | rfl
          · exact sep_new (x := (t, tup us)) hoL (Ne.symm hS9) q hq
          · exact sep_new (x := (t, tup us)) hoI (Ne.symm (hSt _ (.head _))) q hq
          · exact sep_new (x := (t, tup us)) hoD (Ne.symm (hSt _ (.tail _ (.head _)))) q hq
        · simp [Kl.rf]
        · simp [hKi]
        · exact List.forall_mem_append.mpr ⟨hKo, List.forall_mem_singleton.mpr ⟨hus, ⟨Nat.le_succ_of_le hsm.1, hsm.2⟩, hpr⟩⟩
        · rw [show (2 + ((i + 1 : Nat) : Int)) = 2 + (i : Int) + 1 by omega]; exact hFd7
        · rw [eK]
          exact List.forall_mem_append.mpr ⟨hsK, List.forall_mem_singleton.mpr (Ne.symm htd)⟩
      case cdone =>
        rintro P ⟨K, oF⟩ h5 tk5 ys nD hJ9 F5 N6 hDs
        refine hideG fun G0 hG0 => ?_
        obtain ⟨rfl, hKi, hKo, hFd, hsK⟩ := hJ9
        refine hG0 ?_
        clear hG0
        dsimp only at F5 N6 hDs hKi hKo hFd hsK
        obtain ⟨mX, FX⟩ := Fr_names (L := s₁.heap.objs.size) (ps := [(Str.ofString "clauses", .ref P)]) F5 (by kst_all)
        dsimp only [kstB] at FX
        clear F5
        obtain ⟨kf, hkf⟩ : ∃ kf : Int, kf = 2 + ((2 + r3).toNat : Int) := ⟨_, rfl⟩
        rw [← hkf] at hFd
        have hkf0 : 0 ≤ kf ∧ kf ≤ 9 := by omega
        have hKl : K.length ≤ 7 := by omega
        have hP1 : @Ne Nat dF P := hDs _ (.head _)
        clear hkf hKi R4 F4 N5 hFd3 q3a q3b
        as_aux_lemma =>
          w_top off
          replace N6 : News s₁.heap s₁.heap.objs.size h5 _ := N6
          try dsimp only
          walk_at "MINE go"
          refine halt_mk ?_
          refine Does.use ((P, listOf (K.map Kl.rf).toArray nD) :: (D1, listOf cs.toArray c1) :: (s₁.heap.objs.size + 1, oK) :: (s₁.heap.objs.size + 1 + 1, oW) :: K.map Kl.ob) (next_c (n := c1) hFd hcs hcl9 (by omega) (by omega) (by omega) (by omega)) hA rfl FX N6 ?g1 ?g2 (fun p hp => .inr (by rw [List.mem_singleton.mp hp]; exact .tail _ (.head _))) (by decide) (by decide) ?_
          case g1 =>
            walk_at "MINE sub"
          case g2 =>
            intro p hp q hq
            rw [List.mem_singleton.mp hp]
            simp only [List.mem_cons] at hq
            rcases hq with rfl | rfl | rfl | rfl | hq
            · exact hP1
            · show @Ne Nat _ _; omega
            · show @Ne Nat _ _; omega
            · show @Ne Nat _ _; omega
            · exact hsK q hq
          rintro v9 own9 h6 tk6 hJ9 F6 N7 S7
          refine hideG fun G0 hG0 => ?_
          obtain ⟨rm, t6, o6, rfl, rfl, q6a, q6b, hFd6⟩ := hJ9
          refine hG0 ?_
          clear hG0
          clear FX N6 S7 hFd
          simp only [List.cons_append, List.nil_append] at N7
          try dsimp only
          walk_at "MINE go"
          rename_i h7 tk7 t7 u7 v7 R7 F7 N8 up7
          clear up7 hDs
          refine halt_mk ?_
          refine comp_rangeL (σ := List Kl × Obj) (n := rm.toNat) (fun c => (dF, c.2) :: (P, listOf (K.map Kl.rf).toArray nD) :: (D1, listOf cs.toArray c1) :: (s₁.heap.objs.size + 1, oK) :: (s₁.heap.objs.size + 1 + 1, oW) :: (K.map Kl.ob ++ c.1.map Kl.ob))
            (fun i ys c => ys = c.1.map Kl.rf ∧ c.1.length = i ∧ MOk 5 c.1 ∧ Feed w D1 (kf + 1 + 2 * i) c.2 ∧ ∀ p ∈ c.1.map Kl.ob, @Ne Nat dF p.1) ([], o6) rfl R7 ?ks ?kn (by rw [sizeLine_eq]; omega) (by decide) rfl F7 (fun p hp => N8 p (by simpa using hp)) ⟨rfl, rfl, fun _ h => (nomatch h), (by rw [show (kf + 1 + 2 * ((0 : Nat) : Int)) = kf + 1 by omega]; exact hFd6), fun _ h => (nomatch h)⟩ (fun _ _ => rfl) ?cturn (rr_assign rfl rfl ?cdone)
          case ks => exact small_one (by omega) (by omega) (by omega) (by omega)
          case kn => rw [rangeSize_nat]; omega
          case cturn =>
            clear F7 N8 R7 hFd6
            rintro i t8 ys ⟨M, oG⟩ u8 h8 tk8 C D I nE oL oI E₂ hi hys hJ9 hoff hbC F8 N9 hLm hLI hLD
            refine hideG fun G0 hG0 => ?_
            obtain ⟨rfl, hMi, hMo, hFd, hsM⟩ := hJ9
            refine hG0 ?_
            clear hG0
            dsimp only at hoff F8 N9 hMi hMo hFd hsM
            refine turn_name (by decide) rfl F8 N9 fun h9 tk9 F9 N10 => wpAny_tests_nil ?_
            clear F8 N9
            simp only [if_true]
            simp only [List.cons_append, List.nil_append] at N10
            try k_fold
            walk_at "MINE go"
            refine halt_mk ?_
            have hoL := hoff _ (.head _)
            have hoI := hoff _ (.tail _ (.head _))
            have hoD := hoff _ (.tail _ (.tail _ (.head _)))
            obtain ⟨R, hR⟩ : ∃ R : List (Addr × Obj), R = (I, oI) :: (D, listOf (M.map Kl.rf).toArray nE) :: (P, listOf (K.map Kl.rf).toArray nD) :: (D1, listOf cs.toArray c1) :: (s₁.heap.objs.size + 1, oK) :: (s₁.heap.objs.size + 1 + 1, oW) :: (K.map Kl.ob ++ M.map Kl.ob) := ⟨_, rfl⟩
            have hRL : ∀ p ∈ R, @Ne Nat p.1 s₁.heap.objs.size := by
              rw [hR]
              intro p hp
              rcases List.mem_cons.mp hp with rfl | hp
              · exact Ne.symm hLI
              rcases List.mem_cons.mp hp with rfl | hp
              · exact Ne.symm hLD
              · exact fun z => hoL p (.tail _ hp) z.symm
            have hRd : ∀ q ∈ R, @Ne Nat dF q.1 := by
              rw [hR]
              intro q hq
              simp only [List.mem_cons, List.mem_append] at hq
              rcases hq with rfl | rfl | rfl | rfl | rfl | rfl | hq | hq
              · exact fun z => hoI _ (.head _) z.symm
              · exact fun z => hoD _ (.head _) z.symm
              · exact hP1
              · show @Ne Nat _ _; omega
              · show @Ne Nat _ _; omega
              · show @Ne Nat _ _; omega
              · exact hsK q hq
              · exact hsM q hq
            have hRc : (D1, listOf cs.toArray c1) ∈ R := by rw [hR]; exact .tail _ (.tail _ (.tail _ (.head _)))
            refine Does.useB R (clause_c (n := c1) hFd hcs hcl9 (by omega) (by omega) (by omega) (by omega)) hA rfl (Nat.le_refl _) hLm F9 N10 (.head _) ?g1 ?g2 ?g3 ?g4 (by decide) (by decide) ?_
            case g1 =>
              rw [hR]
              walk_at "MINE sub"
            case g2 =>
              intro p hp
              rcases List.mem_append.mp hp with hp | hp
              · rw [List.mem_singleton.mp hp]; exact fun z => hoL _ (.head _) z.symm
              · exact hRL p hp
            case g3 =>
              intro p hp q hq
              rw [List.mem_singleton.mp hp]
              exact hRd q hq
            case g4 =>
              intro p hp
              rw [List.mem_singleton.mp hp]
              exact .inr hRc
            rintro v9 own9 h10 tk10 oL10 hJ9 hLm10 F10 N11 S10 S11
            refine hideG fun G0 hG0 => ?_
            obtain ⟨t, o10, us, cl, rfl, rfl, htd, hFd10, hus, hpr, hsm⟩ := hJ9
            refine hG0 ?_
            clear hG0
            simp only [List.cons_append, List.nil_append] at N11
            clear F9 N10 hFd
            have hTR : ∀ q ∈ R, @Ne Nat t q.1 := S10 (t, tup us) (.tail _ (.head _))
            have hTL : @Ne Nat t s₁.heap.objs.size := S11 (t, tup us) (.tail _ (.head _))
            clear S10 S11
            try dsimp only
            walk_at "MINE go"
            refine halt_mk ?_
            refine Does.useB ((t, tup us) :: R) (bent_c (n := c1) hFd10 hcs hcl9 (by omega) (by omega) hus hsm) hA rfl (Nat.le_refl _) hLm10 F10 N11 (.head _) ?b1 ?b2 ?b3 ?b4 (by decide) (by decide) ?_
            case b1 => exact fun p hp => .tail _ hp
            case b2 =>
              intro p hp
              rcases List.mem_cons.mp hp with rfl | hp
              · exact fun z => hoL _ (.head _) z.symm
              rcases List.mem_cons.mp hp with rfl | hp
              · exact hTL
              · exact hRL p hp
            case b3 =>
              intro p hp q hq
              rw [List.mem_singleton.mp hp]
              rcases List.mem_cons.mp hq with rfl | hq
              · exact Ne.symm htd
              · exact hRd q hq
            case b4 =>
              intro p hp
              rcases List.mem_cons.mp hp with rfl | hp
              · exact .inr (.tail _ hRc)
              · rw [List.mem_singleton.mp hp]; exact .inr (.head _)
            rintro v9 own' h11 tk11 oL11 hJ9 hLm11 F11 N12 S12 S13
            refine hideG fun G0 hG0 => ?_
            obtain ⟨t', o11, us', c', rfl, hor, hFd11, hus', hsm'⟩ := hJ9
            refine hG0 ?_
            clear hG0
            obtain ⟨N13, hTR', hTL', htd'⟩ : News s₁.heap C h11 ((s₁.heap.objs.size, oL11) :: (dF, o11) :: (t', tup us') :: R) ∧ (∀ q ∈ R, @Ne Nat t' q.1) ∧ @Ne Nat t' s₁.heap.objs.size ∧ @Ne Nat t' dF := by
              rcases hor with ⟨rfl, rfl, rfl, rfl⟩ | ⟨rfl, hd'⟩
              · exact ⟨N12, hTR, hTL, htd⟩
              · refine ⟨fun p hp => N12 p ?_, fun q hq => S12 (t', tup us') (.tail _ (.head _)) q (.tail _ hq), S13 (t', tup us') (.tail _ (.head _)), hd'⟩
                revert p
                walk_at "MINE sub"
            clear F10 N11 N12 S12 S13 hFd10 hor hTR hTL htd
            have eM : (M ++ [(⟨t', us', c'⟩ : Kl)]).map Kl.ob = M.map Kl.ob ++ [(t', tup us')] := by simp [Kl.ob]
            rw [hR] at N13 hTR'
            refine ⟨(M ++ [(⟨t', us', c'⟩ : Kl)], o11), h11, tk11, _, oL11, rfl, hLm11, F11, (fun p hp => N13 p ?_), (fun p hp q hq => ?_), ?_, ?_, ?_, ?_, ?_⟩
            · dsimp only at hp
              rw [eM] at hp
              revert p
              walk_at "MINE sub"
            · dsimp only at hq
              rw [eM, ← List.append_assoc] at hq
              rcases mem3 hp with rfl | rfl | rfl
              · exact sep_new (x := (t', tup us')) hoL (Ne.symm hTL') q hq
              · exact sep_new (x := (t', tup us')) hoI (Ne.symm (hTR' _ (.head _))) q hq
              · exact sep_new (x := (t', tup us')) hoD (Ne.symm (hTR' _ (.tail _ (.head _)))) q hq
            · simp [Kl.rf]
            · simp [hMi]
            · exact List.forall_mem_append.mpr ⟨hMo, List.forall_mem_singleton.mpr ⟨hus', hsm'⟩⟩
            · rw [show (kf + 1 + 2 * ((i + 1 : Nat) : Int)) = kf + 1 + 2 * (i : Int) + 1 + 1 by omega]; exact hFd11
            · rw [eM]
              exact List.forall_mem_append.mpr ⟨hsM, List.forall_mem_singleton.mpr (Ne.symm htd')⟩
          case cdone =>
            rintro S ⟨M, oG⟩ h8 tk8 ys nS hJ9 F8 N9 hDs
            refine hideG fun G0 hG0 => ?_
            obtain ⟨rfl, hMi, hMo, hFd, hsM⟩ := hJ9
            refine hG0 ?_
            clear hG0
            dsimp only at F8 N9 hDs hMi hMo hFd hsM
            obtain ⟨mY, FY⟩ := Fr_names (L := s₁.heap.objs.size) (ps := [(Str.ofString "log", .ref S), (Str.ofString "clauses", .ref P)]) F8 (by kst_all)
            dsimp only [kstB] at FY
            replace N9 : News s₁.heap s₁.heap.objs.size h8 _ := N9
            obtain ⟨kg, hkg⟩ : ∃ kg : Int, kg = kf + 1 + 2 * ((rm.toNat : Nat) : Int) := ⟨_, rfl⟩
            rw [← hkg] at hFd
            have hkg0 : 0 ≤ kg ∧ kg ≤ 16 := by omega
            have hMl : M.length ≤ 3 := by omega
            have hS1 : @Ne Nat dF S := hDs _ (.head _)
            clear hkg hMi R7 F7 N8 hFd6 F8 hDs hkf0 q6a q6b
            try dsimp only
            as_aux_lemma =>
              w_top off
              have hRd : ∀ q ∈ (S, listOf (M.map Kl.rf).toArray nS) :: (P, listOf (K.map Kl.rf).toArray nD) :: (D1, listOf cs.toArray c1) :: (s₁.heap.objs.size + 1, oK) :: (s₁.heap.objs.size + 1 + 1, oW) :: (K.map Kl.ob ++ M.map Kl.ob), @Ne Nat dF q.1 := by
                intro q hq
                simp only [List.mem_cons, List.mem_append] at hq
                rcases hq with rfl | rfl | rfl | rfl | rfl | hq | hq
                · exact hS1
                · exact hP1
                · show @Ne Nat _ _; omega
                · show @Ne Nat _ _; omega
                · show @Ne Nat _ _; omega
                · exact hsK q hq
                · exact hsM q hq
              have N10 : News s₁.heap s₁.heap.objs.size h8 ((dF, oG) :: (S, listOf (M.map Kl.rf).toArray nS) :: (P, listOf (K.map Kl.rf).toArray nD) :: (D1, listOf cs.toArray c1) :: (s₁.heap.objs.size + 1, oK) :: (s₁.heap.objs.size + 1 + 1, oW) :: (K.map Kl.ob ++ M.map Kl.ob)) := fun p hp => N9 p (by
                revert p
                walk_at "MINE sub")
              clear N9
              try dsimp only
              walk_at "MINE go"
              refine halt_mk ?_
              obtain ⟨Mid, hMid⟩ : ∃ Mid : Value → Shared → Prop, Mid = (fun v s' => ∃ (q : Kl) (h : Heap) (tk : Nat) (oH : Obj) (k : Int), v = .ref q.a ∧ s' = ⟨h, s₁.gens, s₁.drawn, tk, s₁.os⟩ ∧ Fr s₁.heap s₁.heap.objs.size h (fun z => if z = Str.ofString "log" then some (Value.ref S) else if z = Str.ofString "clauses" then some (Value.ref P) else mY z) ∧
                News s₁.heap s₁.heap.objs.size h (q.ob :: (dF, oH) :: (S, listOf (M.map Kl.rf).toArray nS) :: (P, listOf (K.map Kl.rf).toArray nD) :: (D1, listOf cs.toArray c1) :: (s₁.heap.objs.size + 1, oK) :: (s₁.heap.objs.size + 1 + 1, oW) :: (K.map Kl.ob ++ M.map Kl.ob)) ∧
                IntsAre q.us q.c ∧ Small 5 q.c ∧ Feed w D1 k oH ∧ 0 ≤ k ∧ k ≤ 20 ∧ @Ne Nat dF q.a) := ⟨_, rfl⟩
              refine wpAny_mono (Q := Mid) ?mid ?fin (fun _ _ x => x)
              case mid =>
                refine IfExp_ ?_
                try k_fold
                walk_at "MINE go"
                refine halt_mk ?_
                refine Does.use _ (next_c (n := c1) hFd hcs hcl9 (by omega) (by omega) (by omega) (by omega)) hA rfl FY N10 (fun p hp => hp) (fun p hp q hq => by rw [List.mem_singleton.mp hp]; exact hRd q hq) (fun p hp => .inr (by rw [List.mem_singleton.mp hp]; exact .tail _ (.tail _ (.head _)))) (by decide) (by decide) ?_
                rintro v9 own9 h9 tk9 hJ9 F9 N11 S9
                refine hideG fun G0 hG0 => ?_
                obtain ⟨r9, t9, o9, rfl, rfl, q9a, q9b, hFd9⟩ := hJ9
                refine hG0 ?_
                clear hG0
                clear FY N10 S9 hFd
                simp only [List.cons_append, List.nil_append] at N11
                try dsimp only
                walk_at "MINE go"
                · rename_i _ D' h10 F10 N12 l10
                  subst hMid
                  refine ⟨⟨D', [], []⟩, _, _, _, _, rfl, rfl, F10, fun p hp => N12 p hp, .nil, ⟨Nat.zero_le _, fun _ h => nomatch h⟩, hFd9, by omega, by omega, Nat.ne_of_lt l10.1⟩
                · refine halt_mk ?_
                  rename_i hr9
                  clear hr9
                  refine Does.use _ (clause_c (n := c1) hFd9 hcs hcl9 (by omega) (by omega) (by omega) (by omega)) hA rfl F9 N11 (fun p hp => hp) (fun p hp q hq => by rw [List.mem_singleton.mp hp]; exact hRd q hq) (fun p hp => .inr (by rw [List.mem_singleton.mp hp]; exact .tail _ (.tail _ (.head _)))) (by decide) (by decide) ?_
                  rintro v9 own9 h10 tk10 hJ9 F10 N12 S10
                  refine hideG fun G0 hG0 => ?_
                  obtain ⟨t, o10, us, cl, rfl, rfl, htd, hFd10, hus, hpr, hsm⟩ := hJ9
                  refine hG0 ?_
                  clear hG0
                  clear F9 N11 hFd9
                  simp only [List.cons_append, List.nil_append] at N12
                  have hTR : ∀ q ∈ (S, listOf (M.map Kl.rf).toArray nS) :: (P, listOf (K.map Kl.rf).toArray nD) :: (D1, listOf cs.toArray c1) :: (s₁.heap.objs.size + 1, oK) :: (s₁.heap.objs.size + 1 + 1, oW) :: (K.map Kl.ob ++ M.map Kl.ob), @Ne Nat t q.1 := S10 (t, tup us) (.tail _ (.head _))
                  clear S10
                  try dsimp only
                  walk_at "MINE go"
                  refine halt_mk ?_
                  refine Does.use ((t, tup us) :: (S, listOf (M.map Kl.rf).toArray nS) :: (P, listOf (K.map Kl.rf).toArray nD) :: (D1, listOf cs.toArray c1) :: (s₁.heap.objs.size + 1, oK) :: (s₁.heap.objs.size + 1 + 1, oW) :: (K.map Kl.ob ++ M.map Kl.ob)) (bent_c (n := c1) hFd10 hcs hcl9 (by omega) (by omega) hus hsm) hA rfl F10 N12 (fun p hp => hp) (fun p hp q hq => by
                    rw [List.mem_singleton.mp hp]
                    rcases List.mem_cons.mp hq with rfl | hq
                    · exact Ne.symm htd
                    · exact hRd q hq) (fun p hp => by
                    rcases List.mem_cons.mp hp with rfl | hp
                    · exact .inr (.tail _ (.tail _ (.tail _ (.head _))))
                    · rw [List.mem_singleton.mp hp]; exact .inr (.head _)) (by decide) (by decide) ?_
                  rintro v9 own' h11 tk11 hJ9 F11 N13 S11
                  refine hideG fun G0 hG0 => ?_
                  obtain ⟨t', o11, us', c', rfl, hor, hFd11, hus', hsm'⟩ := hJ9
                  refine hG0 ?_
                  clear hG0
                  subst hMid
                  refine ⟨⟨t', us', c'⟩, h11, tk11, o11, _, rfl, rfl, F11, ?_, hus', hsm', hFd11, by omega, by omega, ?_⟩
                  · rcases hor with ⟨rfl, rfl, rfl, rfl⟩ | ⟨rfl, hd'⟩
                    · intro p hp
                      refine N13 p ?_
                      rcases List.mem_cons.mp hp with rfl | hp
                      · exact .tail _ (.head _)
                      rcases List.mem_cons.mp hp with rfl | hp
                      · exact .head _
                      · exact .tail _ (.tail _ hp)
                    · intro p hp
                      refine N13 p ?_
                      rcases List.mem_cons.mp hp with rfl | hp
                      · exact .tail _ (.head _)
                      rcases List.mem_cons.mp hp with rfl | hp
                      · exact .head _
                      · exact .tail _ (.tail _ (.tail _ hp))
                  · rcases hor with ⟨rfl, rfl, rfl, rfl⟩ | ⟨rfl, hd'⟩
                    · exact Ne.symm htd
                    · exact Ne.symm hd'
              case fin =>
                clear FY N10 hFd hkg0
                subst hMid
                rintro v9 own9 hJ9
                refine hideG fun G0 hG0 => ?_
                obtain ⟨q, h9, tk9, oH, kh, rfl, rfl, F9, N11, hqu, hqs, hFd, hkh0, hkh1, hqd⟩ := hJ9
                refine hG0 ?_
                clear hG0
                have hMq : MOk 5 (M ++ [q]) := List.forall_mem_append.mpr ⟨hMo, List.forall_mem_singleton.mpr ⟨hqu, hqs⟩⟩
                try dsimp only
                walk_at "MINE go"
                refine halt_mk ?_
                rename_i h10 F10 N12
                refine refused_c (eP := nD) (eS := nS) hKo hMq hKl hMl hA rfl F10 N12 (fun p hp => (N12 p ?_).1) (by decide) (by decide) ?_
                · simp only [List.mem_cons, List.mem_append] at hp ⊢
                  rcases hp with hp | hp | hp | hp | hp <;> simp [hp]
                intro n tn h11 tk11 hFW F11 N13
                clear F10 N12
                try dsimp only
                walk_at "MINE go"
                refine halt_mk ?_
                rename_i l' h12 F12 N14 l14 h13 F13 N15
                have eM : M.map Kl.rf ++ [Value.ref q.a] = (M ++ [q]).map Kl.rf := by simp [Kl.rf]
                rw [eM] at N15
                clear F12 N14 l14
                have hMl1 : (M ++ [q]).length ≤ 4 := by simp; omega
                refine Does.use _ (lfirst_c (eP := nD) (eS := 0) hKo hMq hKl hMl1) hA rfl F13 N15 (fun p hp => hp) (fun _ h => nomatch h) (fun p hp => .inr ?_) (by decide) (by decide) ?_
                · simp only [List.map_append, List.mem_cons, List.mem_append, List.map_cons, List.map_nil, List.not_mem_nil, or_false] at hp ⊢
                  rcases hp with hp | hp | hp | hp | hp
                  · simp [hp]
                  · exact .inl hp
                  all_goals simp [hp]
                rintro v9 own9 h14 tk14 hJ9 F14 N16 S16
                refine hideG fun G0 hG0 => ?_
                obtain ⟨rfl, n', t', rfl, hFW2⟩ := hJ9
                refine hG0 ?_
                clear hG0
                obtain rfl := fw_unique hFW hFW2
                have N17 : News s₁.heap s₁.heap.objs.size h14 ((dF, oH) :: (P, listOf (K.map Kl.rf).toArray nD) :: (D1, listOf cs.toArray c1) :: (s₁.heap.objs.size + 1, oK) :: (s₁.heap.objs.size + 1 + 1, oW) :: K.map Kl.ob) := fun p hp => N16 p (by
                  revert p
                  walk_at "MINE sub")
                clear N16 S16 F13 N15 hFW hFW2
                try dsimp only
                walk_at "MINE go"
                rename_i Lt hh lL h15 F15 N18
                refine hideG fun G0 hG0 => ?_
                obtain ⟨lL1, lL2⟩ := lL
                obtain ⟨mZ, FZ⟩ := Fr_names (L := s₁.heap.objs.size) (ps := [(Str.ofString "literals", .ref Lt), (Str.ofString "clauses", .ref P)]) F15 (by kst_all)
                refine hG0 ?_
                clear hG0
                dsimp only [kstB] at FZ
                clear F15 hRd hS1 hsM hMo hMl hMq hqu hqs hMl1 eM hqd
                refine halt_mk ?_
                as_aux_lemma =>
                  w_top off
                  have hRd : ∀ q ∈ (P, listOf (K.map Kl.rf).toArray nD) :: (D1, listOf cs.toArray c1) :: (s₁.heap.objs.size + 1, oK) :: (s₁.heap.objs.size + 1 + 1, oW) :: K.map Kl.ob, @Ne Nat dF q.1 := by
                    intro q hq
                    simp only [List.mem_cons] at hq
                    rcases hq with rfl | rfl | rfl | rfl | hq
                    · exact hP1
                    · show @Ne Nat _ _; omega
                    · show @Ne Nat _ _; omega
                    · show @Ne Nat _ _; omega
                    · exact hsK q hq
                  have hLt : ∀ q ∈ (P, listOf (K.map Kl.rf).toArray nD) :: (D1, listOf cs.toArray c1) :: (s₁.heap.objs.size + 1, oK) :: (s₁.heap.objs.size + 1 + 1, oW) :: K.map Kl.ob, @Ne Nat Lt q.1 := by
                    refine hideG fun G0 hG0 => ?_
                    obtain ⟨a1, a2, a3, a4, a5⟩ := lL2
                    refine hG0 ?_
                    clear hG0
                    replace a5 := of_allLt a5
                    intro q hq
                    simp only [List.mem_cons] at hq
                    rcases hq with rfl | rfl | rfl | rfl | hq
                    · exact Ne.symm (Nat.ne_of_lt a1)
                    · exact Ne.symm (Nat.ne_of_lt a2)
                    · exact Ne.symm (Nat.ne_of_lt a3)
                    · exact Ne.symm (Nat.ne_of_lt a4)
                    · exact Ne.symm (Nat.ne_of_lt (a5 q hq))
                  walk_at "MINE for"
                  (rename Fr _ _ _ _ => FZ)
                  walk_at "MINE go"
                  refine halt_mk ?_
                  refine Does.use ((Lt, listOf (List.toArray []) 0) :: (P, listOf (K.map Kl.rf).toArray nD) :: (D1, listOf cs.toArray c1) :: (s₁.heap.objs.size + 1, oK) :: (s₁.heap.objs.size + 1 + 1, oW) :: K.map Kl.ob) (next_c (n := c1) hFd hcs hcl9 (by omega) (by omega) (by omega) (by omega)) hA rfl FZ N18 ?g1 ?g2 (fun p hp => .inr (by rw [List.mem_singleton.mp hp]; exact .tail _ (.tail _ (.head _)))) (by decide) (by decide) ?_
                  case g1 =>
                    walk_at "MINE sub"
                  case g2 =>
                    intro p hp q hq
                    rw [List.mem_singleton.mp hp]
                    rcases List.mem_cons.mp hq with rfl | hq
                    · first | exact Nat.ne_of_lt lL1 | exact Nat.ne_of_lt lL1.1
                    · exact hRd q hq
                  rintro v9 own9 h16 tk16 hJ9 F16 N19 S19
                  refine hideG fun G0 hG0 => ?_
                  obtain ⟨r16, t16, o16, rfl, rfl, q16a, q16b, hFd16⟩ := hJ9
                  refine hG0 ?_
                  clear hG0
                  clear FZ N18 S19 hFd
                  simp only [List.cons_append, List.nil_append] at N19
                  try dsimp only
                  walk_at "MINE go"
                  rename_i h17 tk17 t17 u17 v17 R17 F17 N20 up17
                  clear up17
                  refine halt_mk ?_
                  refine loop_range (σ := (List Value × List Int × Nat) × Obj) (n := r16.toNat) (fun c => (Lt, listOf c.1.1.toArray c.1.2.2) :: (dF, c.2) :: (P, listOf (K.map Kl.rf).toArray nD) :: (D1, listOf cs.toArray c1) :: (s₁.heap.objs.size + 1, oK) :: (s₁.heap.objs.size + 1 + 1, oW) :: K.map Kl.ob) (fun _ => [(Str.ofString "literals", .ref Lt), (Str.ofString "clauses", .ref P)])
                    (fun i c => IntsAre c.1.1 c.1.2.1 ∧ LitOk c.1.2.1 ∧ c.1.2.1.length ≤ i ∧ Feed w D1 (kh + 1 + 2 * i) c.2) (([], [], 0), o16) rfl R17 ?ks ?kn F17 (fun p hp => N20 p ?kN) ?kp ?kj ?turn ?done
                  case ks => exact small_one (by omega) (by omega) (by omega) (by omega)
                  case kn => rw [rangeSize_nat]; omega
                  case kN =>
                    revert p
                    walk_at "MINE sub"
                  case kp => kst_all
                  case kj => exact ⟨.nil, (fun _ h => nomatch h), Nat.le_refl _, (by rw [show (kh + 1 + 2 * ((0 : Nat) : Int)) = kh + 1 by omega]; exact hFd16)⟩
                  case turn =>
                    clear F17 N20 R17 hFd16
                    rintro i t18 ⟨⟨vl, ls, eL⟩, oJ⟩ u18 h18 tk18 I oI hi hJ9 hoff F18 N21
                    refine hideG fun G0 hG0 => ?_
                    obtain ⟨hvl, hlo, hll, hFd⟩ := hJ9
                    refine hG0 ?_
                    clear hG0
                    dsimp only [kstB] at hoff F18 N21 hvl hlo hll hFd
                    refine hideQ fun Qt hQt => ?_
                    try k_fold
                    walk_at "MINE go"
                    refine halt_mk ?_
                    have hRR : ∀ q ∈ (I, oI) :: (Lt, listOf vl.toArray eL) :: (P, listOf (K.map Kl.rf).toArray nD) :: (D1, listOf cs.toArray c1) :: (s₁.heap.objs.size + 1, oK) :: (s₁.heap.objs.size + 1 + 1, oW) :: K.map Kl.ob, @Ne Nat dF q.1 := by
                      intro q hq
                      rcases List.mem_cons.mp hq with rfl | hq
                      · exact hoff (dF, oJ) (.tail _ (.head _))
                      rcases List.mem_cons.mp hq with rfl | hq
                      · first | exact Nat.ne_of_lt lL1 | exact Nat.ne_of_lt lL1.1
                      · exact hRd q hq
                    replace N21 : News s₁.heap s₁.heap.objs.size h18 ((dF, oJ) :: (I, oI) :: (Lt, listOf vl.toArray eL) :: (P, listOf (K.map Kl.rf).toArray nD) :: (D1, listOf cs.toArray c1) :: (s₁.heap.objs.size + 1, oK) :: (s₁.heap.objs.size + 1 + 1, oW) :: K.map Kl.ob) := fun p hp => N21 p (by
                      rcases List.mem_cons.mp hp with rfl | hp
                      · exact .tail _ (.tail _ (.head _))
                      rcases List.mem_cons.mp hp with rfl | hp
                      · exact .head _
                      rcases List.mem_cons.mp hp with rfl | hp
                      · exact .tail _ (.head _)
                      · exact .tail _ (.tail _ (.tail _ hp)))
                    refine Does.use _ (next_c (n := c1) hFd hcs hcl9 (by omega) (by omega) (by omega) (by omega)) hA rfl F18 N21 (fun p hp => hp) (fun p hp q hq => by rw [List.mem_singleton.mp hp]; exact hRR q hq) (fun p hp => .inr (by rw [List.mem_singleton.mp hp]; exact .tail _ (.tail _ (.tail _ (.head _))))) (by decide) (by decide) ?_
                    rintro v9 own9 h19 tk19 hJ9 F19 N22 S19
                    refine hideG fun G0 hG0 => ?_
                    obtain ⟨r19, t19, o19, rfl, rfl, q19a, q19b, hFd19⟩ := hJ9
                    refine hG0 ?_
                    clear hG0
                    clear F18 N21 S19 hFd
                    simp only [List.cons_append, List.nil_append] at N22
                    try dsimp only
                    walk_at "MINE go"
                    rename_i h20 F20 N23
                    refine halt_mk ?_
                    obtain ⟨Mid, hMid⟩ : ∃ Mid : Value → Shared → Prop, Mid = (fun v s' => ∃ (x : Int) (tx : Tok) (h : Heap) (tk : Nat) (oH : Obj) (u : Str → Option Value), v = .int x tx ∧ s' = ⟨h, s₁.gens, s₁.drawn, tk, s₁.os⟩ ∧ x ≠ 0 ∧ x.natAbs ≤ 4 ∧ Fr s₁.heap s₁.heap.objs.size h (kstB u [(Str.ofString "literals", .ref Lt), (Str.ofString "clauses", .ref P)]) ∧
                      News s₁.heap s₁.heap.objs.size h ((dF, oH) :: (I, oI) :: (Lt, listOf vl.toArray eL) :: (P, listOf (K.map Kl.rf).toArray nD) :: (D1, listOf cs.toArray c1) :: (s₁.heap.objs.size + 1, oK) :: (s₁.heap.objs.size + 1 + 1, oW) :: K.map Kl.ob) ∧ Feed w D1 (kh + 1 + 2 * i + 1 + 1) oH) := ⟨_, rfl⟩
                    refine wpAny_mono (Q := Mid) ?mid ?fin (fun _ _ x => x)
                    case mid =>
                      refine IfExp_ ?_
                      try k_fold
                      walk_at "MINE go"
                      refine halt_mk ?_
                      refine Does.use _ (next_c (n := c1) hFd19 hcs hcl9 (by omega) (by omega) (by omega) (by omega)) hA rfl F20 N23 (fun p hp => hp) (fun p hp q hq => by rw [List.mem_singleton.mp hp]; exact hRR q hq) (fun p hp => .inr (by rw [List.mem_singleton.mp hp]; exact .tail _ (.tail _ (.tail _ (.head _))))) (by decide) (by decide) ?_
                      rintro v9 own9 h21 tk21 hJ9 F21 N24 S21
                      refine hideG fun G0 hG0 => ?_
                      obtain ⟨r21, t21, o21, rfl, rfl, q21a, q21b, hFd21⟩ := hJ9
                      refine hG0 ?_
                      clear hG0
                      clear F20 N23 S21 hFd19
                      simp only [List.cons_append, List.nil_append] at N24
                      try dsimp only
                      walk_at "MINE go"
                      all_goals subst hMid
                      · obtain ⟨uX, FX⟩ := Fr_names (L := s₁.heap.objs.size) (ps := [(Str.ofString "literals", .ref Lt), (Str.ofString "clauses", .ref P)]) F21 (by kst_all)
                        exact ⟨_, _, _, _, _, uX, rfl, rfl, by omega, by omega, FX, N24, hFd21⟩
                      · obtain ⟨uX, FX⟩ := Fr_names (L := s₁.heap.objs.size) (ps := [(Str.ofString "literals", .ref Lt), (Str.ofString "clauses", .ref P)]) F21 (by kst_all)
                        exact ⟨_, _, _, _, _, uX, rfl, rfl, by omega, by omega, FX, N24, hFd21⟩
                    case fin =>
                      clear F20 N23 hFd19
                      subst hMid
                      rintro v9 own9 hJ9
                      refine hideG fun G0 hG0 => ?_
                      obtain ⟨x, tx, h22, tk22, oH, u22, rfl, rfl, hx0, hx4, F22, N25, hFd22⟩ := hJ9
                      refine hG0 ?_
                      clear hG0
                      dsimp only [kstB] at F22
                      try dsimp only
                      walk_at "MINE go"
                      have N26 : News s₁.heap s₁.heap.objs.size h22 ((Lt, listOf vl.toArray eL) :: (dF, oH) :: (I, oI) :: (P, listOf (K.map Kl.rf).toArray nD) :: (D1, listOf cs.toArray c1) :: (s₁.heap.objs.size + 1, oK) :: (s₁.heap.objs.size + 1 + 1, oW) :: K.map Kl.ob) := fun p hp => N25 p (by
                        revert p
                        walk_at "MINE sub")
                      have hne : ∀ p ∈ (dF, oH) :: (I, oI) :: (P, listOf (K.map Kl.rf).toArray nD) :: (D1, listOf cs.toArray c1) :: (s₁.heap.objs.size + 1, oK) :: (s₁.heap.objs.size + 1 + 1, oW) :: K.map Kl.ob, p.1 ≠ Lt := by
                        intro p hp
                        rcases List.mem_cons.mp hp with rfl | hp
                        · first | exact Nat.ne_of_lt lL1 | exact Nat.ne_of_lt lL1.1
                        rcases List.mem_cons.mp hp with rfl | hp
                        · exact fun z => hoff _ (.head _) z.symm
                        · exact fun z => hLt p hp z.symm
                      have hvl2 := hvl.length
                      refine append_K (its := vl.toArray) (n := eL) (news' := (Lt, listOf (vl.toArray.push (.int x tx)) (eL + 1)) :: (dF, oH) :: (I, oI) :: (P, listOf (K.map Kl.rf).toArray nD) :: (D1, listOf cs.toArray c1) :: (s₁.heap.objs.size + 1, oK) :: (s₁.heap.objs.size + 1 + 1, oW) :: K.map Kl.ob) F22 N26 (.head hne) (fun h23 F23 N27 => ?_) (hsz := by rw [List.size_toArray, sizeLine_eq]; omega)
                      rw [List.push_toArray] at N27
                      clear F22 N25 N26
                      try dsimp only
                      walk_at "MINE go"
                      try dsimp only [TurnEnd, qk]
                      refine turnNext ((vl ++ [.int x tx], ls ++ [x], eL + 1), oH) F23 (fun p hp => N27 p ?_) (fun p hp => ?_) (by kst_all) ⟨hvl.append (.cons _ _ .nil), List.forall_mem_append.mpr ⟨hlo, List.forall_mem_singleton.mpr ⟨hx0, hx4⟩⟩, ?_, ?_⟩
                      · dsimp only at hp
                        revert p
                        walk_at "MINE sub"
                      · rcases List.mem_cons.mp hp with rfl | hp
                        · exact hoff (Lt, listOf vl.toArray eL) (.head _)
                        rcases List.mem_cons.mp hp with rfl | hp
                        · exact hoff (dF, oJ) (.tail _ (.head _))
                        · exact hoff p (.tail _ (.tail _ hp))
                      · dsimp only; rw [List.length_append, List.length_singleton]; omega
                      · dsimp only; rw [show (kh + 1 + 2 * ((i + 1 : Nat) : Int)) = kh + 1 + 2 * (i : Int) + 1 + 1 by omega]; exact hFd22
                  case done =>
                    clear F17 N20 R17 hFd16
                    rintro ⟨⟨vl, ls, eL⟩, oJ⟩ u18 h18 tk18 hJ9 F18 N21
                    refine hideG fun G0 hG0 => ?_
                    obtain ⟨hvl, hlo, hll, hFd⟩ := hJ9
                    refine hG0 ?_
                    clear hG0
                    dsimp only at hvl hlo hll hFd N21
                    replace F18 : Fr s₁.heap s₁.heap.objs.size h18 (fun z => if z = Str.ofString "literals" then some (Value.ref Lt) else if z = Str.ofString "clauses" then some (Value.ref P) else u18 z) := F18
                    replace N21 : News s₁.heap s₁.heap.objs.size h18 ((Lt, listOf vl.toArray eL) :: (P, listOf (K.map Kl.rf).toArray nD) :: K.map Kl.ob) := fun p hp => N21 p (by
                      revert p
                      walk_at "MINE sub")
                    have hll2 : ls.length ≤ 2 := by omega
                    clear hll hFd hRd hLt lL1 lL2 hP1 hsK hkh0 hkh1 hoK hoW hcs hcl9 q16a q16b q2a q2b d1 d2 d3 d4 d5 hL hI hlen
                    try dsimp only
                    as_aux_lemma =>
                      w_top off
                      walk_at "MINE go"
                      refine halt_mk ?_
                      refine DoesK.use (new_u (eP := nD) hKo (by omega)) hA rfl F18 N21 (fun p hp => .inr (.tail _ hp)) (by decide) (by decide) ?_
                      rintro v9 own h19 tk19 hJ9 F19 N22 S19
                      refine hideG fun G0 hG0 => ?_
                      obtain ⟨u, rfl, rfl, hok⟩ := hJ9
                      refine hG0 ?_
                      clear hG0
                      clear F18 N21
                      try dsimp only
                      walk_at "MINE go"
                      refine halt_mk ?_
                      refine Does.use (US.own w u ++ u.more K ++ (Lt, listOf vl.toArray eL) :: (P, listOf (K.map Kl.rf).toArray nD) :: K.map Kl.ob) (lforced_c (eP := nD) (eL := eL) hKo (by omega) hvl hlo (by omega)) hA rfl F19 N22 (fun p hp => hp) (fun _ h => nomatch h) (fun p hp => .inr (List.mem_append_right _ ?_)) (by decide) (by decide) ?_
                      · rcases List.mem_cons.mp hp with rfl | hp
                        · exact .tail _ (.head _)
                        rcases List.mem_cons.mp hp with rfl | hp
                        · exact .head _
                        · exact .tail _ (.tail _ hp)
                      rintro v due h20 tk20 hpost F20 N23 S20
                      refine hideG fun G0 hG0 => ?_
                      obtain ⟨r0, hup, hdue⟩ := fpost_due hpost
                      refine hG0 ?_
                      clear hG0
                      have hfew := isUP_few (kok_small hKo) (fun x hx => (hlo x hx).2) hup
                      have hTd : ∀ p ∈ US.own w u, ∀ q ∈ u.more K ++ (due ++ (Lt, listOf vl.toArray eL) :: (P, listOf (K.map Kl.rf).toArray nD) :: K.map Kl.ob), p.1 ≠ q.1 := by
                        intro p hp q hq
                        rcases List.mem_append.mp hq with hq | hq
                        · exact hok.sep p hp q hq
                        rcases List.mem_append.mp hq with hq | hq
                        · exact fun z => S20 q hq p (List.mem_append_left _ (List.mem_append_left _ hp)) z.symm
                        · exact S19 p (List.mem_append_left _ hp) q hq
                      have N24 : News s₁.heap s₁.heap.objs.size h20 (US.own w u ++ (u.more K ++ (due ++ (Lt, listOf vl.toArray eL) :: (P, listOf (K.map Kl.rf).toArray nD) :: K.map Kl.ob))) := fun p hp => N23 p (by
                        revert p
                        walk_at "MINE sub")
                      clear F19 N22 S19 N23 S20 hpost
                      try dsimp only
                      walk_at "MINE go"
                      rename_i D' h21 l21 h22 h23 h24 F24 N25
                      refine halt_mk ?_
                      clear l21
                      refine Does.use (u.more K ++ (due ++ (Lt, listOf vl.toArray eL) :: (P, listOf (K.map Kl.rf).toArray nD) :: K.map Kl.ob)) (forced_u (lp := Lt) (eL := eL) hok hKo (by omega) hvl hlo (by omega)) hA rfl F24 N25 (fun p hp => .tail _ hp) hTd (fun p hp => .inr ?_) (by decide) (by decide) ?_
                      · simp only [List.mem_append, List.mem_cons, List.not_mem_nil, or_false] at hp ⊢
                        rcases hp with (hp | hp) | hp <;> simp [hp]
                      rintro v2 own9 h25 tk25 hJ9 F25 N26 S26
                      refine hideG fun G0 hG0 => ?_
                      obtain ⟨u2, d2, rfl, ex, em, hok2, hpost⟩ := hJ9
                      refine hG0 ?_
                      clear hG0
                      obtain ⟨r2, hup2, hdue2⟩ := fpost_due hpost
                      obtain rfl := isUP_unique hup hup2
                      rw [← ex] at F25
                      rw [← em] at N26 S26
                      have hTd2 : ∀ p ∈ US.own w u2, ∀ q ∈ u2.more K ++ (due ++ (Lt, listOf vl.toArray eL) :: (P, listOf (K.map Kl.rf).toArray nD) :: K.map Kl.ob), p.1 ≠ q.1 := fun p hp q hq => S26 p (List.mem_append_left _ hp) q hq
                      have N27 : News s₁.heap s₁.heap.objs.size h25 (d2 ++ (US.own w u2 ++ (u2.more K ++ (due ++ (Lt, listOf vl.toArray eL) :: (P, listOf (K.map Kl.rf).toArray nD) :: K.map Kl.ob)))) := fun p hp => N26 p (by
                        rcases List.mem_append.mp hp with hp | hp
                        · exact List.mem_append_left _ (List.mem_append_right _ hp)
                        rcases List.mem_append.mp hp with hp | hp
                        · exact List.mem_append_left _ (List.mem_append_left _ hp)
                        · exact List.mem_append_right _ hp)
                      clear F24 N25 N26 S26 hpost hup2 hTd hok em
                      try dsimp only
                      walk_at "MINE go"
                      refine halt_mk ?_
                      refine repr_due hdue2 hfew F25 N27 (fun p hp => List.mem_append_left _ hp) (by with_unfolding_all rfl) (show callerA.units + 3 + 10 < cLine by decide) fun h26 u26 tk26 F26 N28 => ?_
                      replace N28 : News s₁.heap s₁.heap.objs.size h26 (US.own w u2 ++ (u2.more K ++ (due ++ (Lt, listOf vl.toArray eL) :: (P, listOf (K.map Kl.rf).toArray nD) :: K.map Kl.ob))) := fun p hp => N28 p (List.mem_append_right _ hp)
                      clear F25 N27 hdue2
                      try dsimp only
                      walk_at "MINE go"
                      refine halt_mk ?_
                      refine repr_due hdue hfew F26 N28 (fun p hp => List.mem_append_right _ (List.mem_append_right _ (List.mem_append_left _ hp))) (by with_unfolding_all rfl) (show callerA.units + 3 + 10 < cLine by decide) fun h27 u27 tk27 F27 N29 => ?_
                      clear F26 N28
                      try dsimp only
                      walk_at "MINE go"
                      · rename_i hx
                        exact absurd hx (by simp)
                      refine halt_mk ?_
                      refine Does.use (u2.more K ++ (due ++ (Lt, listOf vl.toArray eL) :: (P, listOf (K.map Kl.rf).toArray nD) :: K.map Kl.ob)) (forced_u (lp := Lt) (eL := eL) hok2 hKo (by omega) hvl hlo (by omega)) hA rfl F27 N29 (fun p hp => hp) hTd2 (fun p hp => .inr ?_) (by decide) (by decide) ?_
                      · simp only [List.mem_append, List.mem_cons, List.not_mem_nil, or_false] at hp ⊢
                        rcases hp with (hp | hp) | hp <;> simp [hp]
                      rintro v3 own9 h28 tk28 hJ9 F28 N30 S30
                      refine hideG fun G0 hG0 => ?_
                      obtain ⟨u3, d3, rfl, ex3, em3, hok3, hpost⟩ := hJ9
                      refine hG0 ?_
                      clear hG0
                      obtain ⟨r3, hup3, hdue3⟩ := fpost_due hpost
                      obtain rfl := isUP_unique hup hup3
                      rw [← ex3] at F28
                      rw [← em3] at N30 S30
                      have hTd3 : ∀ p ∈ US.own w u3, ∀ q ∈ u3.more K ++ (due ++ (Lt, listOf vl.toArray eL) :: (P, listOf (K.map Kl.rf).toArray nD) :: K.map Kl.ob), p.1 ≠ q.1 := fun p hp q hq => S30 p (List.mem_append_left _ hp) q hq
                      have N31 : News s₁.heap s₁.heap.objs.size h28 (d3 ++ (US.own w u3 ++ (u3.more K ++ (due ++ (Lt, listOf vl.toArray eL) :: (P, listOf (K.map Kl.rf).toArray nD) :: K.map Kl.ob)))) := fun p hp => N30 p (by
                        rcases List.mem_append.mp hp with hp | hp
                        · exact List.mem_append_left _ (List.mem_append_right _ hp)
                        rcases List.mem_append.mp hp with hp | hp
                        · exact List.mem_append_left _ (List.mem_append_left _ hp)
                        · exact List.mem_append_right _ hp)
                      clear F27 N29 N30 S30 hpost hup3 hTd2 hok2 em3
                      try dsimp only
                      walk_at "MINE go"
                      refine halt_mk ?_
                      refine repr_due hdue3 hfew F28 N31 (fun p hp => List.mem_append_left _ hp) (by with_unfolding_all rfl) (show callerA.units + 3 + 10 < cLine by decide) fun h29 u29 tk29 F29 N32 => ?_
                      replace N32 : News s₁.heap s₁.heap.objs.size h29 (US.own w u3 ++ (u3.more K ++ (due ++ (Lt, listOf vl.toArray eL) :: (P, listOf (K.map Kl.rf).toArray nD) :: K.map Kl.ob))) := fun p hp => N32 p (List.mem_append_right _ hp)
                      clear F28 N31 hdue3
                      try dsimp only
                      walk_at "MINE go"
                      refine halt_mk ?_
                      refine repr_due hdue hfew F29 N32 (fun p hp => List.mem_append_right _ (List.mem_append_right _ (List.mem_append_left _ hp))) (by with_unfolding_all rfl) (show callerA.units + 3 + 10 < cLine by decide) fun h30 u30 tk30 F30 N33 => ?_
                      clear F29 N32
                      try dsimp only
                      walk_at "MINE go"
                      refine halt_mk ?_
                      obtain ⟨m30, FZ⟩ := Fr_names (L := s₁.heap.objs.size) (ps := [(Str.ofString "steps", .ref u3.x), (Str.ofString "clauses", .ref P)]) F30 (by kst_all)
                      dsimp only [kstB] at FZ
                      replace N33 : News s₁.heap s₁.heap.objs.size h30 (US.own w u3 ++ (u3.more K ++ ((P, listOf (K.map Kl.rf).toArray nD) :: K.map Kl.ob))) := fun p hp => N33 p (by
                        rcases List.mem_append.mp hp with hp | hp
                        · exact List.mem_append_left _ hp
                        rcases List.mem_append.mp hp with hp | hp
                        · exact List.mem_append_right _ (List.mem_append_left _ hp)
                        · exact List.mem_append_right _ (List.mem_append_right _ (List.mem_append_right _ (.tail _ hp))))
                      have hTd : ∀ p ∈ US.own w u3, ∀ q ∈ u3.more K ++ ((P, listOf (K.map Kl.rf).toArray nD) :: K.map Kl.ob), p.1 ≠ q.1 := fun p hp q hq => hTd3 p hp q (by
                        rcases List.mem_append.mp hq with hq | hq
                        · exact List.mem_append_left _ hq
                        · exact List.mem_append_right _ (List.mem_append_right _ (.tail _ hq)))
                      clear hTd3 hdue F30 hfew hup hll2 hvl hlo
                      as_aux_lemma =>
                        w_top off
                        walk_at "MINE for"
                        (rename Fr _ _ _ _ => FZ)
                        walk_at "MINE go"
                        refine halt_mk ?_
                        have eT : (slicePick (K.map Kl.rf).toArray none (some 2) none).toList = (K.take 2).map Kl.rf := by
                          rw [show (some (2 : Int)) = some ((2 : Nat) : Int) from rfl, slicePick_upto']
                          simp [List.map_take]
                        k_dflt (refine' kmk_slice_lit (zs := (K.take 2).map Kl.rf) ?zzF ?zzN ?zzl ?zzp ?zzq ?zze ?_ ?zzs ?zzt ?zzz; (case zzF => exact FZ); (case zzN => exact N33); (case zzl => exact News.isList N33 (List.mem_append_right _ (List.mem_append_right _ (.head _)))); (case zzp => kmk_part); (case zzq => kmk_part); (case zze => exact eT); (case zzs => with_unfolding_all rfl); (case zzt => kmk_pure); (case zzz => (rw [List.size_toArray, List.length_map, sizeLine_eq]; omega)))
                        intro T2 h31 F31 N34 l34
                        clear FZ N33
                        try dsimp only
                        walk_at "MINE go"
                        refine halt_mk ?_
                        have hT2 : ∀ p ∈ US.own w u3, ∀ q ∈ u3.more K ++ ((T2, listOf ((K.take 2).map Kl.rf).toArray 0) :: (P, listOf (K.map Kl.rf).toArray nD) :: K.map Kl.ob), p.1 ≠ q.1 := by
                          intro p hp q hq
                          rcases List.mem_append.mp hq with hq | hq
                          · exact hTd p hp q (List.mem_append_left _ hq)
                          rcases List.mem_cons.mp hq with rfl | hq
                          · exact Nat.ne_of_lt (l34 p (List.mem_append_left _ hp))
                          · exact hTd p hp q (List.mem_append_right _ hq)
                        have N35 : News s₁.heap s₁.heap.objs.size h31 (US.own w u3 ++ (u3.more K ++ ((T2, listOf ((K.take 2).map Kl.rf).toArray 0) :: (P, listOf (K.map Kl.rf).toArray nD) :: K.map Kl.ob))) := fun p hp => N34 p (by
                          rcases List.mem_append.mp hp with hp | hp
                          · exact .tail _ (List.mem_append_left _ hp)
                          rcases List.mem_append.mp hp with hp | hp
                          · exact .tail _ (List.mem_append_right _ (List.mem_append_left _ hp))
                          rcases List.mem_cons.mp hp with rfl | hp
                          · exact .head _
                          · exact .tail _ (List.mem_append_right _ (List.mem_append_right _ hp)))
                        clear N34 l34 hTd eT
                        refine loop_list (σ := US) (fun z => US.own w z ++ (z.more K ++ ((T2, listOf ((K.take 2).map Kl.rf).toArray 0) :: (P, listOf (K.map Kl.rf).toArray nD) :: K.map Kl.ob))) (fun z => [(Str.ofString "steps", .ref z.x), (Str.ofString "clauses", .ref P)])
                          (fun i z => z.Ok w K ∧ ∀ p ∈ US.own w z, ∀ q ∈ z.more K ++ ((T2, listOf ((K.take 2).map Kl.rf).toArray 0) :: (P, listOf (K.map Kl.rf).toArray nD) :: K.map Kl.ob), p.1 ≠ q.1) u3 rfl (.inr ⟨listOf ((K.take 2).map Kl.rf).toArray 0, rfl, ⟨0, rfl⟩, fun i c hJ => List.mem_append_right _ (List.mem_append_right _ (.head _))⟩) F31 N35 (by kst_all) ⟨hok3, hT2⟩ ?turn ?done
                        case turn =>
                          rintro i v u u32 h32 tk32 II oI hvi ⟨hok, hsp⟩ hoff F32 N36
                          clear F31 N35 hok3 hT2
                          dsimp only [kstB] at F32 N36 hoff
                          rw [List.getElem?_map] at hvi
                          refine hideG fun G0 hG0 => ?_
                          obtain ⟨k, hk1, rfl⟩ := Option.map_eq_some_iff.mp hvi
                          have hkK : k ∈ K := List.mem_of_mem_take (List.mem_of_getElem? hk1)
                          obtain ⟨hku, hks, hprop⟩ := hKo k hkK
                          refine hG0 ?_
                          clear hG0
                          dsimp only [Kl.rf] at F32
                          refine hideQ fun Qt hQt => ?_
                          try k_fold
                          walk_at "MINE go"
                          refine halt_mk ?_
                          refine Does.use ((II, oI) :: (u.more K ++ ((T2, listOf ((K.take 2).map Kl.rf).toArray 0) :: (P, listOf (K.map Kl.rf).toArray nD) :: K.map Kl.ob))) (follows_u hok hKo (by omega) hku hks hprop) hA rfl F32 N36 (fun p hp => ?_) (fun p hp q hq => ?_) (fun p hp => .inr ?_) (by decide) (by decide) ?_
                          · rcases List.mem_append.mp hp with hp | hp
                            · exact .tail _ (List.mem_append_left _ hp)
                            rcases List.mem_cons.mp hp with rfl | hp
                            · exact .head _
                            · exact .tail _ (List.mem_append_right _ hp)
                          · rcases List.mem_cons.mp hq with rfl | hq
                            · exact hoff p (List.mem_append_left _ hp)
                            · exact hsp p hp q hq
                          · rcases List.mem_cons.mp hp with rfl | hp
                            · exact .tail _ (List.mem_append_right _ (.tail _ (.tail _ (List.mem_map_of_mem (f := Kl.ob) hkK))))
                            rcases List.mem_append.mp hp with hp | hp
                            · exact .tail _ (List.mem_append_left _ hp)
                            · exact .tail _ (List.mem_append_right _ (.tail _ (.tail _ hp)))
                          rintro v9 own9 h33 tk33 hJ9 F33 N37 S37
                          refine hideG fun G0 hG0 => ?_
                          obtain ⟨u2, b, rfl, ex, em, hok2, rfl, hup⟩ := hJ9
                          refine hG0 ?_
                          clear hG0
                          clear F32 N36
                          rw [← ex] at F33
                          rw [← em] at N37 S37 hoff
                          clear hsp
                          try dsimp only
                          walk_at "MINE go"
                          refine halt_mk ?_
                          refine PySem.P.repr_of_bool ?_
                          try dsimp only
                          walk_at "MINE go"
                          refine halt_mk ?_
                          have hul := hku.length
                          have hsl := hks.1
                          refine comp_tuple (σ := Unit) (fun _ => US.own w u2 ++ ((II, oI) :: (u2.more K ++ ((T2, listOf ((K.take 2).map Kl.rf).toArray 0) :: (P, listOf (K.map Kl.rf).toArray nD) :: K.map Kl.ob)))) (fun j ys _ => IntsAre ys (neg (k.c.take j))) () rfl
                            (.inr ⟨tup k.us, rfl, ⟨0, rfl⟩, fun _ _ _ _ => List.mem_append_right _ (.tail _ (List.mem_append_right _ (.tail _ (.tail _ (List.mem_map_of_mem (f := Kl.ob) hkK)))))⟩) (by rw [sizeLine_eq]; omega) (by decide) rfl F33 N37 .nil (fun _ _ => rfl) ?cturn (rr_eval ?cdone)
                          case cturn =>
                            rintro j v ys ⟨⟩ u₃ h₆ tk₆ C I₂ D₂ nE oL oI₂ E₂ hv₂ hlen₂ hys hoffC hbC F₈ N₈ hL
                            clear F33 N37
                            refine hideG fun G0 hG0 => ?_
                            obtain ⟨y, ty, rfl, hy⟩ := hku.at j v hv₂
                            refine hG0 ?_
                            clear hG0
                            have htj : k.c.take (j + 1) = k.c.take j ++ [y] := by rw [List.take_add_one, hy]; rfl
                            refine turn_name (by decide) rfl F₈ N₈ fun h₇ tk₇ F₉ N₉ => wpAny_tests_nil ?_
                            clear F₈ N₈
                            simp only [if_true]
                            try k_fold
                            walk_at "MINE go"
                            (rename Fr _ _ _ _ => F10); (rename News _ _ _ _ => N10)
                            refine eltEnd (led := fun _ : Unit => _) () F10 N10 hoffC ?_
                            rw [htj, neg, List.map_append]
                            exact hys.append (.cons _ _ .nil)
                          case cdone =>
                            intro D₂ c' h₆ tk₆ ys nE hys F₈ N₈ hD₂
                            clear F33 N37
                            rw [hul, List.take_length] at hys
                            have hnl : (neg k.c).length ≤ 12 := by rw [neg, List.length_map]; omega
                            replace F₈ : Fr s₁.heap s₁.heap.objs.size h₆ _ := F₈
                            replace N₈ : News s₁.heap s₁.heap.objs.size h₆ _ := N₈
                            try k_fold
                            try dsimp only
                            walk_at "MINE go"
                            refine halt_mk ?_
                            refine Does.use ((D₂, listOf ys.toArray nE) :: (US.own w u2 ++ ((II, oI) :: (u2.more K ++ ((T2, listOf ((K.take 2).map Kl.rf).toArray 0) :: (P, listOf (K.map Kl.rf).toArray nD) :: K.map Kl.ob))))) (lforced_c (eP := nD) (eL := nE) hKo (by omega) hys (neg_ok hks hprop) hnl) hA rfl F₈ N₈ (fun p hp => hp) (fun _ h => nomatch h) (fun p hp => .inr ?_) (by decide) (by decide) ?_
                            · rcases List.mem_cons.mp hp with rfl | hp
                              · exact .tail _ (List.mem_append_right _ (.tail _ (List.mem_append_right _ (.tail _ (.head _)))))
                              rcases List.mem_cons.mp hp with rfl | hp
                              · exact .head _
                              · exact .tail _ (List.mem_append_right _ (.tail _ (List.mem_append_right _ (.tail _ (.tail _ hp)))))
                            rintro v3 due3 h38 tk38 hpost F38 N38 S38
                            refine hideG fun G0 hG0 => ?_
                            obtain ⟨r3, hup3, hdue3⟩ := fpost_due hpost
                            refine hG0 ?_
                            clear hG0
                            replace N38 : News s₁.heap s₁.heap.objs.size h38 (US.own w u2 ++ ((II, oI) :: (u2.more K ++ ((T2, listOf ((K.take 2).map Kl.rf).toArray 0) :: (P, listOf (K.map Kl.rf).toArray nD) :: K.map Kl.ob)))) := fun p hp => N38 p (List.mem_append_right _ (.tail _ hp))
                            clear F₈ N₈ S38 hpost hD₂
                            have hbr : b = r3.isNone := by
                              cases r3 with
                              | none => rcases hup with ⟨rfl, _⟩ | ⟨_, xs, hx⟩
                                        · rfl
                                        · exact absurd (isUP_unique hup3 hx) (by simp)
                              | some xs => rcases hup with ⟨_, hx⟩ | ⟨rfl, _⟩
                                           · exact absurd (isUP_unique hup3 hx) (by simp)
                                           · rfl
                            subst hbr
                            clear hup hup3
                            cases r3 with
                            | none =>
                              obtain ⟨rfl, rfl⟩ := hdue3
                              try dsimp only
                              walk_at "MINE go"
                              refine halt_mk ?_
                              refine PySem.P.repr_of_bool ?_
                              try dsimp only
                              walk_at "MINE go"
                              try dsimp only [TurnEnd]
                              refine turnNext u2 F38 (fun p hp => N38 p ?_) (fun p hp => ?_) (by kst_all) ⟨hok2, fun p hp q hq => S37 p hp q (.tail _ hq)⟩
                              · rcases List.mem_cons.mp hp with rfl | hp
                                · exact List.mem_append_right _ (.head _)
                                rcases List.mem_append.mp hp with hp | hp
                                · exact List.mem_append_left _ hp
                                · exact List.mem_append_right _ (.tail _ hp)
                              · rcases List.mem_append.mp hp with hp | hp
                                · exact S37 p hp (II, oI) (.head _)
                                · exact hoff p (List.mem_append_right _ hp)
                            | some xs =>
                              refine hideG fun G0 hG0 => ?_
                              obtain ⟨D3, us3, e3, rfl, rfl, _⟩ := hdue3
                              refine hG0 ?_
                              clear hG0
                              try dsimp only
                              walk_at "MINE go"
                              refine halt_mk ?_
                              refine PySem.P.repr_of_bool ?_
                              try dsimp only
                              simp only [Option.isNone_some, Bool.false_eq_true, if_false]
                              walk_at "MINE go"
                              try dsimp only [TurnEnd]
                              refine turnNext u2 F38 (fun p hp => N38 p ?_) (fun p hp => ?_) (by kst_all) ⟨hok2, fun p hp q hq => S37 p hp q (.tail _ hq)⟩
                              · rcases List.mem_cons.mp hp with rfl | hp
                                · exact List.mem_append_right _ (.head _)
                                rcases List.mem_append.mp hp with hp | hp
                                · exact List.mem_append_left _ hp
                                · exact List.mem_append_right _ (.tail _ hp)
                              · rcases List.mem_append.mp hp with hp | hp
                                · exact S37 p hp (II, oI) (.head _)
                                · exact hoff p (List.mem_append_right _ hp)
                        case done =>
                          rintro u u32 h32 tk32 ⟨hok, hsp⟩ F32 N36
                          clear F31 N35 hok3 hT2

                          replace F32 : Fr s₁.heap s₁.heap.objs.size h32 (fun z => if z = Str.ofString "steps" then some (Value.ref u.x) else if z = Str.ofString "clauses" then some (Value.ref P) else u32 z) := F32
                          replace N36 : News s₁.heap s₁.heap.objs.size h32 (US.own w u ++ (u.more K ++ ((P, listOf (K.map Kl.rf).toArray nD) :: K.map Kl.ob))) := fun p hp => N36 p (by
                            rcases List.mem_append.mp hp with hp | hp
                            · exact List.mem_append_left _ hp
                            rcases List.mem_append.mp hp with hp | hp
                            · exact List.mem_append_right _ (List.mem_append_left _ hp)
                            · exact List.mem_append_right _ (List.mem_append_right _ (.tail _ hp)))
                          replace hsp : ∀ p ∈ US.own w u, ∀ q ∈ u.more K ++ ((P, listOf (K.map Kl.rf).toArray nD) :: K.map Kl.ob), p.1 ≠ q.1 := fun p hp q hq => hsp p hp q (by
                            rcases List.mem_append.mp hq with hq | hq
                            · exact List.mem_append_left _ hq
                            · exact List.mem_append_right _ (.tail _ hq))
                          try dsimp only
                          walk_at "MINE go"
                          rename_i Le h33 F33 N37 l37
                          refine halt_mk ?_
                          have hsp2 : ∀ p ∈ US.own w u, ∀ q ∈ (Le, listOf (List.toArray []) 0) :: (u.more K ++ ((P, listOf (K.map Kl.rf).toArray nD) :: K.map Kl.ob)), p.1 ≠ q.1 := by
                            intro p hp q hq
                            rcases List.mem_cons.mp hq with rfl | hq
                            · exact Nat.ne_of_lt (l37 p (List.mem_append_left _ hp))
                            · exact hsp p hp q hq
                          refine Does.use ((Le, listOf (List.toArray []) 0) :: (u.more K ++ ((P, listOf (K.map Kl.rf).toArray nD) :: K.map Kl.ob))) (forced_u (lp := Le) (eL := 0) (vl := []) (lits := []) hok hKo (by omega) .nil (fun _ h => nomatch h) (Nat.zero_le _)) hA rfl F33 N37 (fun p hp => ?_) hsp2 (fun p hp => .inr ?_) (by decide) (by decide) ?_
                          · rcases List.mem_append.mp hp with hp | hp
                            · exact .tail _ (List.mem_append_left _ hp)
                            rcases List.mem_cons.mp hp with rfl | hp
                            · exact .head _
                            · exact .tail _ (List.mem_append_right _ hp)
                          · rcases List.mem_append.mp hp with hp | hp
                            · rcases List.mem_append.mp hp with hp | hp
                              · exact .tail _ (List.mem_append_left _ hp)
                              · exact .tail _ (List.mem_append_right _ (.tail _ hp))
                            · rw [List.mem_singleton.mp hp]; exact .head _
                          rintro v2 own9 h34 tk34 hJ9 F34 N38 S38
                          refine hideG fun G0 hG0 => ?_
                          obtain ⟨u2, d2, rfl, ex, em, hok2, hpost⟩ := hJ9
                          refine hG0 ?_
                          clear hG0
                          obtain ⟨r2, hup2, hdue2⟩ := fpost_due hpost
                          have hfew := isUP_few (lits := []) (kok_small hKo) (fun _ h => nomatch h) hup2
                          replace N38 : News s₁.heap s₁.heap.objs.size h34 (d2 ++ ((P, listOf (K.map Kl.rf).toArray nD) :: K.map Kl.ob)) := fun p hp => N38 p (by
                            rcases List.mem_append.mp hp with hp | hp
                            · exact List.mem_append_left _ (List.mem_append_right _ hp)
                            · exact List.mem_append_right _ (.tail _ (List.mem_append_right _ hp)))
                          clear S38 hpost F33 N37 l37 hsp2 hsp
                          try dsimp only
                          walk_at "MINE go"
                          refine halt_mk ?_
                          refine repr_due hdue2 hfew F34 N38 (fun p hp => List.mem_append_left _ hp) (by with_unfolding_all rfl) (show callerA.units + 3 + 10 < cLine by decide) fun h35 u35 tk35 F35 N39 => ?_
                          replace N39 : News s₁.heap s₁.heap.objs.size h35 ((P, listOf (K.map Kl.rf).toArray nD) :: K.map Kl.ob) := fun p hp => N39 p (List.mem_append_right _ hp)
                          clear F34 N38 hdue2
                          try dsimp only
                          walk_at "MINE go"
                          rename_i Lf h36 F36 N40 l40
                          refine halt_mk ?_
                          refine Does.use ((Lf, listOf (List.toArray []) 0) :: ((P, listOf (K.map Kl.rf).toArray nD) :: K.map Kl.ob)) (lforced_c (eP := nD) (eL := 0) (vs := []) (ls := []) hKo (by omega) .nil (fun _ h => nomatch h) (Nat.zero_le _)) hA rfl F36 N40 (fun p hp => hp) (fun _ h => nomatch h) (fun p hp => .inr ?_) (by decide) (by decide) ?_
                          · rcases List.mem_cons.mp hp with rfl | hp
                            · exact .tail _ (.head _)
                            rcases List.mem_cons.mp hp with rfl | hp
                            · exact .head _
                            · exact .tail _ (.tail _ hp)
                          rintro v3 d3 h37 tk37 hpost F37 N41 S41
                          refine hideG fun G0 hG0 => ?_
                          obtain ⟨r3, hup3, hdue3⟩ := fpost_due hpost
                          refine hG0 ?_
                          clear hG0
                          obtain rfl := isUP_unique hup2 hup3
                          clear S41 hpost F36 N40
                          try dsimp only
                          walk_at "MINE go"
                          refine halt_mk ?_
                          refine repr_due hdue3 hfew F37 N41 (fun p hp => List.mem_append_left _ hp) (by with_unfolding_all rfl) (show callerA.units + 3 + 10 < cLine by decide) fun h38 u38 tk38 F38 N42 => ?_
                          clear F37 N41
                          try dsimp only
                          walk_at "MINE go"
                          rw [show (text r2 == text r2) = true from beq_self_eq_true _]
                          exact hEnd _ _ _ F38)
end Mine
theorem PySem.Challenge.cw_nu0243_01_holds : PySem.Challenge.rw_nu0243_01.Holds := by
  exact Mine.law_holds
