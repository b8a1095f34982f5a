import PyProof.Rows.All
import Wide.All
import OpenK.AllK
import Wide.FinOn
import PySem.Challenge.RW_on0297_01
open PySem PySem.W PyProof.Rows
set_option Elab.async false
set_option maxRecDepth 100000
set_option maxHeartbeats 8000000
set_option compiler.extract_closed false
namespace Mine
noncomputable abbrev prog0 : Program := PySem.Challenge.rw_on0297_01.row.toRowW.prog
theorem said0 : OpenLaw.wellSaid PySem.Challenge.rw_on0297_01 = true := by
  rw [PySem.W.Fast.te9446332074065402090]; kernel_rfl
noncomputable def keep0 : List Nat := [0, 2, 3, 4, 5, 6, 7, 8, 9, 10, 11, 12, 13, 14, 15, 16, 17, 18, 19, 20, 21, 22, 23, 24, 25, 26, 28, 29, 30, 31, 32, 33, 34, 35, 36, 37, 38, 40, 41, 43, 44, 45, 46, 48, 49, 51, 52, 53, 54, 55, 57, 58, 59, 60, 61, 62, 63, 64, 65]
noncomputable def q0 : Program := view prog0 keep0
noncomputable abbrev loose0 : List Str := ["Node", "Const", "Local", "Global", "SetLocal", "SetGlobal", "Define", "If", "Lambda", "Call", "Seq", "Prim", "Fix"]
/-- the top's run upon a tree of objects -/
noncomputable def topRunT (stp : SharedT → Thread → Option (SharedT × Thread)) (ok : Thread → Bool) : Nat → SharedT → Thread → Option SharedT
  | 0, _, _ => none
  | n + 1, s, t => match through t with
    | true => some s
    | false => match ok t with
      | false => none
      | true => match stp s t with
        | some (s', t') => topRunT stp ok n s' t'
        | none => none
theorem topRunT_of {tb : String → Option Builtin} {p : Program} {w : World} {n₀ : Nat} {ann : Option Value} : ∀ {n : Nat} {s s' : SharedT} {t : Thread}, topRunT (stepT (denote tb) p w) (stepOk n₀ ann) n s t = some s' → topRun tb p w n₀ ann n s.abs t = some s'.abs
  | 0, _, _, _, h => by cases h
  | n + 1, s, s', t, h => by
    unfold topRunT at h
    unfold topRun
    cases he : through t with
    | true => rw [he] at h; cases h; rfl
    | false =>
      rw [he] at h
      cases hk : stepOk n₀ ann t with
      | false => rw [hk] at h; cases h
      | true =>
        rw [hk] at h
        cases hs : stepT (denote tb) p w s t with
        | none => rw [hs] at h; cases h
        | some r => obtain ⟨s₂, t₂⟩ := r; rw [hs] at h; dsimp only; rw [stepT_spec hs]; exact topRunT_of h
noncomputable def bootT (P : Params) : BT := ((boot_heap P).objs.toList.zipIdx).foldl (fun t x => t.ins x.2 x.1) .nil
noncomputable def bootN : Nat := 11
noncomputable def bootL (P : Params) : Life := (boot_heap P).life
noncomputable def boot0 (w : World) (os : OsState) : SharedT := ⟨bootT w.params, bootN, bootL w.params, #[], boot_drawn, boot_toks, os⟩
theorem bootT_is (P : Params) : absHeap (bootT P) bootN (bootL P) = boot_heap P := by kernel_rfl
/-- all that is looked at behind the top -/
noncomputable def LK {α : Type} (p q : Program) (loose : List Str) (Xt : Shared → Bool) (Yf : Shared → α) (h₀ : Heap) (s : Shared) :=
  ((staticsOk (importedModules p.main.body) h₀ s.heap && namesBound p s.heap && gensDone s && laidKept h₀ s.heap), openSeen q loose (importedModules p.main.body) Xt true s, Yf s)
theorem LeftO.of_one {p q : Program} {loose : List Str} {Xt : Shared → Bool} {α : Type} {Yf : Shared → α} {Ya : World → α} {N M : Nat} {m₀ : Nat} {ann : Option Value}
    (open_ : ∀ w : World, (fencedOpening treeTable p w N).map (fun s => (s.heap, s.gens, s.drawn, s.toks)) = some (boot_heap w.params, Array.mk [], boot_drawn, boot_toks))
    (size : ∀ w : World, ((boot_heap w.params).isNs mainGlobals && (Array.mk [] : Array GenState).size == 0, (boot_heap w.params).objs.size, (boot_heap w.params).nsMap mainGlobals "__annotations__") = (true, m₀, ann)) (le : Nat.ble M N = true)
    (run : ∀ w : World, (fun os => (topRunT (stepT (denote treeTable) p w) (stepOk m₀ ann) M (boot0 w os) (topStub p)).map (fun s => (LK p q loose Xt Yf (boot_heap w.params) s.abs, s.os))) = fun os => some ((true, openGood q loose, Ya w), os)) : LeftO p q loose Xt Yf Ya N true := fun w => by
  obtain ⟨⟨h, gs, d, k, os⟩, e, e'⟩ := Option.map_eq_some_iff.mp (open_ w)
  obtain ⟨rfl, rfl, rfl, rfl⟩ : h = boot_heap w.params ∧ gs = Array.mk [] ∧ d = boot_drawn ∧ k = boot_toks := by simpa using e'
  obtain ⟨z1, z2, z3⟩ : _ ∧ _ ∧ _ := by simpa only [Prod.mk.injEq] using size w
  obtain ⟨s', r0, l0⟩ := Option.map_eq_some_iff.mp (congrFun (run w) os)
  have l1 := congrArg (fun x => x.1.1) l0
  have l2 := congrArg (fun x => x.1.2.1) l0
  have l3 := congrArg (fun x => x.1.2.2) l0
  have r := topRunT_of r0
  have hb : (boot0 w os).abs = ⟨boot_heap w.params, Array.mk [], boot_drawn, boot_toks, os⟩ := by
    unfold boot0 SharedT.abs
    rw [bootT_is]
  rw [hb] at r
  replace r := topRun_mono (N - M) _ _ _ _ r
  rw [show M + (N - M) = N by have := Nat.le_of_ble_eq_true le; omega] at r
  have t : topFrom treeTable p w N ⟨boot_heap w.params, Array.mk [], boot_drawn, boot_toks, os⟩ = some s'.abs := by
    unfold topFrom
    dsimp only
    rw [z1, z2, z3, r]
    show (match staticsOk (importedModules p.main.body) (boot_heap w.params) s'.abs.heap && namesBound p s'.abs.heap && gensDone s'.abs && laidKept (boot_heap w.params) s'.abs.heap with | true => _ | false => _) = _
    rw [show (staticsOk (importedModules p.main.body) (boot_heap w.params) s'.abs.heap && namesBound p s'.abs.heap && gensDone s'.abs && laidKept (boot_heap w.params) s'.abs.heap) = true from l1]
  unfold openEnds
  rw [e]
  show (topFrom treeTable p w N _).map _ = _
  rw [t]
  exact congrArg some (Prod.ext l2 l3)
theorem one_turn {p : Program} {w : World} {n₀ : Nat} {ann : Option Value} {M : Nat} {s : SharedT} {t : Thread} {r : Option SharedT} (h : topRunT (PySem.W.Fast.tw10156331382660048174 (PySem.W.Fast.tw11892475500146522536 PySem.W.Fast.tw14364793385576792824) p w) (PySem.W.Fast.tw6613529449190102663 n₀ ann) M s t = r) :
    topRunT (stepT (denote treeTable) p w) (stepOk n₀ ann) M s t = r := by
  rw [PySem.W.Fast.te10156331382660048174, PySem.W.Fast.te11892475500146522536, PySem.W.Fast.te14364793385576792824, PySem.W.Fast.te6613529449190102663]
  exact h
theorem open0 : ∀ w : World, (fencedOpening treeTable prog0 w 10000).map (fun s => (s.heap, s.gens, s.drawn, s.toks)) = some (boot_heap w.params, Array.mk [], boot_drawn, boot_toks) := boot_open (by kernel_rfl) (by decide) (fun s => by kernel_rfl)
theorem size0 : ∀ w : World, ((boot_heap w.params).isNs mainGlobals && (Array.mk [] : Array GenState).size == 0, (boot_heap w.params).objs.size, (boot_heap w.params).nsMap mainGlobals "__annotations__") = (true, 11, some (.ref 6)) := fun w => by
  rw [PySem.W.Fast.te8920871248978507458]
  kernel_rfl
/-- the top's run -/
noncomputable abbrev ran (w : World) (os : OsState) : Option SharedT := (topRunT (PySem.W.Fast.tw10156331382660048174 (PySem.W.Fast.tw11892475500146522536 PySem.W.Fast.tw14364793385576792824) prog0 w) (PySem.W.Fast.tw6613529449190102663 11 (some (.ref 6))) 10000 (boot0 w os) (topStub prog0))
noncomputable abbrev Xt0 : Shared → Bool := fun s => xlAt q0 [] s && recOk (RowW.records PySem.Challenge.rw_on0297_01.row.toRowW) s
noncomputable abbrev seenT (s : SharedT) := PySem.W.Fast.tw4187177175401517315 q0 loose0 (PySem.W.Fast.tw5923862056798008813 prog0.main.body) Xt0 true s.abs
theorem of_ran {α : Type} {x : Option SharedT} {s : SharedT} {f : SharedT → α} {a : α} (h : x = some s) (k : x.map f = some a) : f s = a := by
  subst h
  exact Option.some.inj k
/-- the head's looks: the whole top, run upon a tree of objects, and what is looked at behind it, in parts -/
theorem left0 {α : Type} {Yf : Shared → α} {Ya : World → α}
    (run1 : ∀ w : World, (fun os => (ran w os).map fun s => ((staticsOk (PySem.W.Fast.tw5923862056798008813 prog0.main.body) (boot_heap w.params) s.abs.heap && namesBound prog0 s.abs.heap && gensDone s.abs && laidKept (boot_heap w.params) s.abs.heap), (seenT s).1, s.os)) = fun os => some (true, expectedOf q0, os))
    (run2 : ∀ w : World, (fun os => (ran w os).map fun s => ((seenT s).2.1, (seenT s).2.2.1, (seenT s).2.2.2.1, (seenT s).2.2.2.2.1)) = fun _ => some (bltViewBooted, true, true, pinGoodD (drecsOf q0)))
    (run3 : ∀ w : World, (fun os => (ran w os).map fun s => ((seenT s).2.2.2.2.2.1, (seenT s).2.2.2.2.2.2.1, (seenT s).2.2.2.2.2.2.2.1, (seenT s).2.2.2.2.2.2.2.2)) = fun _ => some (plainGoodE q0 (looseW q0 loose0), plainGoodD q0 loose0, wideGood q0, clsGoodW q0 loose0))
    (run4 : ∀ w : World, (fun os => (ran w os).map fun s => Yf s.abs) = fun _ => some (Ya w)) :
    LeftO prog0 q0 loose0 Xt0 Yf Ya 10000 true := by
  refine LeftO.of_one (M := 10000) open0 size0 rfl fun w => ?_
  have h : (fun os => (ran w os).map fun s => (((staticsOk (PySem.W.Fast.tw5923862056798008813 prog0.main.body) (boot_heap w.params) s.abs.heap && namesBound prog0 s.abs.heap && gensDone s.abs && laidKept (boot_heap w.params) s.abs.heap), seenT s, Yf s.abs), s.os)) = fun os => some ((true, openGood q0 loose0, Ya w), os) := by
    funext os
    obtain ⟨s, hs, e1⟩ := Option.map_eq_some_iff.mp (congrFun (run1 w) os)
    have e2 := of_ran hs (congrFun (run2 w) os)
    have e3 := of_ran hs (congrFun (run3 w) os)
    have e4 := of_ran hs (congrFun (run4 w) os)
    simp only [Prod.mk.injEq] at e1 e2 e3
    rw [hs]
    refine congrArg some ?_
    refine Prod.ext (Prod.ext e1.1 (Prod.ext ?_ e4)) e1.2.2
    exact Prod.ext e1.2.1 (Prod.ext e2.1 (Prod.ext e2.2.1 (Prod.ext e2.2.2.1 (Prod.ext e2.2.2.2 (Prod.ext e3.1 (Prod.ext e3.2.1 (Prod.ext e3.2.2.1 e3.2.2.2)))))))
  unfold ran seenT at h
  rw [← PySem.W.Fast.te10156331382660048174, ← PySem.W.Fast.te11892475500146522536, ← PySem.W.Fast.te14364793385576792824, ← PySem.W.Fast.te6613529449190102663, ← PySem.W.Fast.te5923862056798008813, ← PySem.W.Fast.te4187177175401517315] at h
  exact h
theorem run1 : ∀ w : World, (fun os => (ran w os).map fun s => ((staticsOk (PySem.W.Fast.tw5923862056798008813 prog0.main.body) (boot_heap w.params) s.abs.heap && namesBound prog0 s.abs.heap && gensDone s.abs && laidKept (boot_heap w.params) s.abs.heap), (seenT s).1, s.os)) = fun os => some (true, expectedOf q0, os) := fun w => by kernel_rfl
theorem run2 : ∀ w : World, (fun os => (ran w os).map fun s => ((seenT s).2.1, (seenT s).2.2.1, (seenT s).2.2.2.1, (seenT s).2.2.2.2.1)) = fun _ => some (bltViewBooted, true, true, pinGoodD (drecsOf q0)) := fun w => by kernel_rfl
theorem run3 : ∀ w : World, (fun os => (ran w os).map fun s => ((seenT s).2.2.2.2.2.1, (seenT s).2.2.2.2.2.2.1, (seenT s).2.2.2.2.2.2.2.1, (seenT s).2.2.2.2.2.2.2.2)) = fun _ => some (plainGoodE q0 (looseW q0 loose0), plainGoodD q0 loose0, wideGood q0, clsGoodW q0 loose0) := fun w => by kernel_rfl
local macro_rules | `(tactic| o_head $H) => `(tactic| (
  refine holds_open (q := q0) (loose := loose0) (Xt := Xt0) (XP := XL q0 []) (Yf := Hook.obs $H) (Ya := Hook.val $H) (YP := Hook.says $H) (N := 10000) ?hl (Hook.of $H) (Hook.keeps $H) (fun s e => xl_of s (Bool.and_eq_true_iff.mp e).1) XL.keeps (by rfl) (by rfl) (by rfl) (fun s e => recFacts_of (Bool.and_eq_true_iff.mp e).2) (by rfl) (by first | assumption | decide +kernel) (by decide +kernel) ⟨rfl, rfl, rfl, rfl, rfl, by decide +kernel⟩ ?hw ?hc;
  (case hl => exact left0 run1 run2 run3 (fun w => by kernel_rfl))))
local macro_rules | `(tactic| o_law) => `(tactic| (refine holds_law said0 fun said => ?_))
open_top hd for PySem.Challenge.rw_on0297_01
theorem top_off : True := by
  w_top off
  trivial
section
open PySem PySem.W PyProof.Rows
set_option Elab.async false
set_option maxRecDepth 100000
noncomputable abbrev arTop (dp un : Nat) (gd : Option (List Code)) (env : Env) (outer : List Env) : Around := { handled := none, depth := dp, frames := some (env :: outer), guards := gd, units := un }
noncomputable def CallsTo (prog : Program) (w : World) (K : Frag) (f : Addr) (vs : List Value) (news : List (Addr × Obj)) (nd nu : Nat) (Post : Value → List (Addr × Obj) → Prop) : Prop :=
  ∀ (p : Program) (loose : List Str) (mean : ExcName → Option Value) (mg mb : Str → Option Value)
    (dp un : Nat) (gd : Option (List Code)) (env : Env) (outer : List Env) (A₀ : Around) (base h₀ : Heap) (L : Addr) (m : Str → Option Value) (s : Shared)
    (Q E : Value → Shared → Prop),
    env.frame = some L → env.scope.kind = .function → Below A₀ base outer h₀ → Fr h₀ L s.heap m → K.In h₀ → News h₀ L s.heap news → Top p loose mean mg mb h₀ → dp + nd < 1000 → un + nu < 9900 →
    (∀ r news' h' tk', Fr h₀ L h' m → News h₀ L h' news' → Post r news' → Q r { s with heap := h', toks := tk' }) →
    wpAny (model prog w) (arTop dp un gd env outer) (call (.ref f) vs) Q E s

noncomputable def WhEnd {σ : Type} (Inv : σ → Shared → Prop) (ms : σ → Nat) (Q : Flow → Shared → Prop) (x : σ) (f : Flow) (s : Shared) : Prop :=
  match f with
  | .ret v => Q (.ret v) s
  | .brk => Q .next s
  | _ => ∃ y, ms y < ms x ∧ Inv y s
theorem whlIf_both {b : Bool} {T F : Prop} (h1 : b = true → T) (h2 : b = false → F) : WhlIf b T F := by
  cases b with
  | true => exact WhlIf.yes rfl (h1 rfl)
  | false => exact WhlIf.no rfl (h2 rfl)
theorem while_ind {σ : Type} (Inv : σ → Shared → Prop) (ms : σ → Nat) {prog : Program} {w : World} {A : Around} {E : Value → Shared → Prop} {s : Shared} {env : Env} {test : PySem.Expr} {body orelse : List Stmt} {Q : Flow → Shared → Prop} {pos : Pos} {x : σ}
    (h : Inv x s) (hE : PassesOwn (model prog w) A env E)
    (turn : ∀ x s, Inv x s → wpAny (model prog w) A (isTrue test env (eval test env)) (fun b s₂ => WhlIf b (wpAny (model prog w) A (execs body env) (WhEnd Inv ms Q x) E s₂) (wpAny (model prog w) A (execs orelse env) Q E s₂)) E s) :
    wpAny (model prog w) A (exec (.While test body orelse pos) env) Q E s := by
  refine whl_start 0 ?_
  suffices H : ∀ n x s, ms x < n → Inv x s → WhlRest prog w A E env test body orelse Q 0 s from H _ x s (Nat.lt_succ_self _) h
  intro n
  induction n with
  | zero => intro x s hx; exact absurd hx (Nat.not_lt_zero _)
  | succ n ih =>
    intro x s hx hI
    have step := whl_turn (k := 0) (test := test) (body := body) (orelse := orelse) (Q := Q) (s := s) hE (wpAny_mono (turn x s hI) (fun b s₂ hb => by
      cases b with
      | true =>
        refine WhlIf.yes rfl ?_
        unfold WhlIf at hb
        rw [if_pos rfl] at hb
        refine wpAny_mono hb (fun f s3 hf => ?_) fun _ _ e => e
        cases f with
        | next => obtain ⟨y, hy, hI'⟩ := hf; exact ih y s3 (by omega) hI'
        | cont => obtain ⟨y, hy, hI'⟩ := hf; exact ih y s3 (by omega) hI'
        | brk => exact hf
        | ret v => exact hf
      | false =>
        refine WhlIf.no rfl ?_
        unfold WhlIf at hb
        rw [if_neg Bool.false_ne_true] at hb
        exact hb) fun _ _ e => e)
    exact step
theorem pop0 {prog : Program} {w : World} {A : Around} {E : Value → Shared → Prop} {s : Shared} {h₀ : Heap} {L D : Addr} {m : Str → Option Value} {news news' : List (Addr × Obj)} {n : Nat} {x : Value} {xs : List Value} {u : Tok} {Q : Value → Shared → Prop} (F : Fr h₀ L s.heap m) (N : News h₀ L s.heap news)
    (U : Upd D (listOf (x :: xs).toArray n) (listOf xs.toArray (n + 1)) news news') (hz : xs.length < 1000) (h : ∀ h', Fr h₀ L h' m → News h₀ L h' news' → Q x { s with heap := h' }) :
    wpAny (model prog w) A (call (.builtin "list.pop") [.ref D, .int 0 u]) Q E s := by
  refine kl_popAt (p := []) (q := xs) (k := 0) F N rfl ?_ rfl U ?_ h
  · have e : (x :: xs).toArray.size = xs.length + 1 := by simp
    rw [e]
    unfold seqIndex?
    simp
  · simp only [List.length_cons]
    rw [PySem.sizeLine_eq]; omega

theorem news_sub {h₀ h : Heap} {L : Addr} {l l' : List (Addr × Obj)} (N : News h₀ L h l) (hs : ∀ p ∈ l', p ∈ l) : News h₀ L h l' := fun p hp => N p (hs p hp)

theorem news_cons {h₀ h : Heap} {L : Addr} {l l' : List (Addr × Obj)} {q : Addr × Obj} (N : News h₀ L h l) (hm : q ∈ l) (N' : News h₀ L h l') : News h₀ L h (q :: l') := fun p hp => by
  rcases List.mem_cons.mp hp with rfl | hp
  · exact N _ hm
  · exact N' p hp
theorem news_app {h₀ h : Heap} {L : Addr} {l l' : List (Addr × Obj)} (N : News h₀ L h l) (N' : News h₀ L h l') : News h₀ L h (l ++ l') := fun p hp => by
  rcases List.mem_append.mp hp with hp | hp
  · exact N p hp
  · exact N' p hp

theorem news2 {h₀ h : Heap} {L : Addr} {l news : List (Addr × Obj)} {q r : Addr × Obj} (N : News h₀ L h l) (m1 : q ∈ l) (m2 : r ∈ l) (ms : ∀ p ∈ news, p ∈ l) : News h₀ L h (q :: r :: news) := news_cons N m1 (news_cons N m2 (news_sub N ms))
theorem news1 {h₀ h : Heap} {L : Addr} {l news : List (Addr × Obj)} {q : Addr × Obj} (N : News h₀ L h l) (m1 : q ∈ l) (ms : ∀ p ∈ news, p ∈ l) : News h₀ L h (q :: news) := news_cons N m1 (news_sub N ms)
theorem news3 {h₀ h : Heap} {L : Addr} {l news : List (Addr × Obj)} {q r u : Addr × Obj} (N : News h₀ L h l) (m1 : q ∈ l) (m2 : r ∈ l) (m3 : u ∈ l) (ms : ∀ p ∈ news, p ∈ l) : News h₀ L h (q :: r :: u :: news) := news_cons N m1 (news_cons N m2 (news_cons N m3 (news_sub N ms)))


/-- q taken out of a ledger -/
inductive Ext (q : Addr × Obj) : List (Addr × Obj) → List (Addr × Obj) → Prop
  | head {r} : Ext q (q :: r) r
  | tail {p r r'} : Ext q r r' → Ext q (p :: r) (p :: r')
theorem Ext.news {h₀ h : Heap} {L : Addr} {q : Addr × Obj} {l r : List (Addr × Obj)} (e : Ext q l r) (N : News h₀ L h l) : News h₀ L h (q :: r) := by
  induction e with
  | head => exact N
  | tail e ih =>
    have h1 := ih fun p hp => N p (.tail _ hp)
    intro p hp
    rcases List.mem_cons.mp hp with rfl | hp
    · exact h1 _ (.head _)
    · rcases List.mem_cons.mp hp with rfl | hp
      · exact N _ (.head _)
      · exact h1 p (.tail _ hp)
theorem Ext.mem {q : Addr × Obj} {l r : List (Addr × Obj)} (e : Ext q l r) : ∀ p, p ∈ l ↔ p = q ∨ p ∈ r := by
  induction e with
  | head => intro p; exact List.mem_cons
  | tail e ih =>
    intro p
    rw [List.mem_cons, List.mem_cons, ih p]
    constructor
    · rintro (h | h | h)
      · exact .inr (.inl h)
      · exact .inl h
      · exact .inr (.inr h)
    · rintro (h | h | h)
      · exact .inr (.inl h)
      · exact .inl h
      · exact .inr (.inr h)
/-- a ledger's written head and its letter -/
inductive Split : List (Addr × Obj) → List (Addr × Obj) → List (Addr × Obj) → Prop
  | base {imm} : Split imm [] imm
  | cons {p r pre imm} : Split r pre imm → Split (p :: r) (p :: pre) imm
theorem Split.eq {r pre imm : List (Addr × Obj)} (e : Split r pre imm) : r = pre ++ imm := by
  induction e with
  | base => rfl
  | cons _ ih => rw [ih]; rfl
/-- what a letter has become: more, and what is new lies off the ledger l -/
structure Grow (l imm imm' : List (Addr × Obj)) : Prop where
  sub : ∀ p ∈ imm, p ∈ imm'
  new : ∀ p ∈ imm', p ∈ imm ∨ ∀ q ∈ l, q.1 ≠ p.1
theorem Grow.refl {l imm : List (Addr × Obj)} : Grow l imm imm := ⟨fun _ h => h, fun _ h => .inl h⟩
theorem Grow.trans {l l' imm imm' imm'' : List (Addr × Obj)} (G1 : Grow l imm imm') (G2 : Grow l' imm' imm'') (hl : ∀ q ∈ l, ∃ o, (q.1, o) ∈ l') : Grow l imm imm'' :=
  ⟨fun p hp => G2.sub p (G1.sub p hp), fun p hp => by
    rcases G2.new p hp with h | h
    · exact G1.new p h
    · refine .inr fun q hq => ?_
      obtain ⟨o, ho⟩ := hl q hq
      exact h (q.1, o) ho⟩
theorem Grow.cons {l imm imm' : List (Addr × Obj)} {a : Addr} {o : Obj} (G : Grow l imm imm') (h : ∀ q ∈ l, q.1 ≠ a) : Grow l imm ((a, o) :: imm') :=
  ⟨fun p hp => .tail _ (G.sub p hp), fun p hp => by
    rcases List.mem_cons.mp hp with rfl | hp
    · exact .inr h
    · exact G.new p hp⟩
theorem Grow.off {l imm imm' : List (Addr × Obj)} {x : Nat} {o : Obj} (G : Grow l imm imm') (hx : (x, o) ∈ l) (h : ∀ p ∈ imm, p.1 ≠ x) : ∀ p ∈ imm', p.1 ≠ x := fun p hp => by
  rcases G.new p hp with h1 | h1
  · exact h p h1
  · exact fun e => h1 _ hx e.symm
theorem Grow.app {l imm tl : List (Addr × Obj)} (h : ∀ p ∈ tl, ∀ q ∈ l, q.1 ≠ p.1) : Grow l imm (tl ++ imm) :=
  ⟨fun _ h => List.mem_append.mpr (.inr h), fun p hp => (List.mem_append.mp hp).elim (fun h1 => .inr (h p h1)) .inl⟩

theorem iteT {P : Prop} {i : Decidable P} {j : Decidable (decide P = true)} {a b : Prop} (hp : P) (h : a) : @ite Prop (decide P = true) j a b := by
  rw [if_pos (decide_eq_true hp)]; exact h
theorem iteF {P : Prop} {i : Decidable P} {j : Decidable (decide P = true)} {a b : Prop} (hp : ¬ P) (h : b) : @ite Prop (decide P = true) j a b := by
  rw [if_neg (by rw [decide_eq_true_eq]; exact hp)]; exact h
theorem iteBT {q : Bool} {j : Decidable (q = true)} {a b : Prop} (hp : q = true) (h : a) : @ite Prop (q = true) j a b := by
  rw [if_pos hp]; exact h
theorem iteBF {q : Bool} {j : Decidable (q = true)} {a b : Prop} (hp : q = false) (h : b) : @ite Prop (q = true) j a b := by
  rw [if_neg (by rw [hp]; exact Bool.false_ne_true)]; exact h
theorem off3_of {I C D : Nat} {l : List (Addr × Obj)} (h1 : ∀ p ∈ l, p.1 ≠ I) (h2 : ∀ p ∈ l, p.1 ≠ C) (h3 : ∀ p ∈ l, p.1 ≠ D) : LCg.Off3 I C D l := LCg.Off3.of fun p hp => ⟨h1 p hp, h2 p hp, h3 p hp⟩
theorem off3_I {I C D : Addr} {l : List (Addr × Obj)} (h : LCg.Off3 I C D l) : ∀ p ∈ l, p.1 ≠ I := fun p hp => (h.mem p hp).1
theorem off3_C {I C D : Addr} {l : List (Addr × Obj)} (h : LCg.Off3 I C D l) : ∀ p ∈ l, p.1 ≠ C := fun p hp => (h.mem p hp).2.1
theorem off3_D {I C D : Addr} {l : List (Addr × Obj)} (h : LCg.Off3 I C D l) : ∀ p ∈ l, p.1 ≠ D := fun p hp => (h.mem p hp).2.2
theorem off1_D {D : Addr} : ∀ {l : List (Addr × Obj)}, LCg.Off1 D l → ∀ p ∈ l, p.1 ≠ D
  | [], _, _, h => nomatch h
  | _ :: _, x, p, h => by
    rcases List.mem_cons.mp h with rfl | h
    · exact x.1
    · exact off1_D x.2 p h
theorem allLt_ne {d : Nat} : ∀ {l : List (Addr × Obj)}, AllLt d l → ∀ p ∈ l, p.1 ≠ d
  | [], _, _, h => nomatch h
  | _ :: _, x, p, h => by
    rcases List.mem_cons.mp h with rfl | h
    · exact Nat.ne_of_lt x.1
    · exact allLt_ne x.2 p h
theorem comp_end {h₀ : Heap} {L I C D : Addr} {m : Str → Option Value} {s₁ : Shared} {oI oC oD : Obj} {rest : Value → List (Addr × Obj) → Prop} {y : Value} {h' : Heap} {tk : Nat} {all l1 l2 news' : List (Addr × Obj)}
    (F : Fr h₀ L h' m) (N : News h₀ L h' all) (e1 : Ext (I, oI) all l1) (e2 : Ext (C, oC) l1 l2) (e3 : Ext (D, oD) l2 news') (off : LCg.Off3 I C D news') (r : rest y news') :
    LCg.CompEnd h₀ L m s₁ I oI C oC D oD (fun _ => True) rest y { s₁ with heap := h', toks := tk } :=
  LCg.CompEnd.intro F N news' (fun p hp => by
    rcases List.mem_cons.mp hp with rfl | hp
    · exact (e1.mem _).mpr (.inl rfl)
    · refine (e1.mem _).mpr (.inr ?_)
      rcases List.mem_cons.mp hp with rfl | hp
      · exact (e2.mem _).mpr (.inl rfl)
      · refine (e2.mem _).mpr (.inr ?_)
        rcases List.mem_cons.mp hp with rfl | hp
        · exact (e3.mem _).mpr (.inl rfl)
        · exact (e3.mem _).mpr (.inr hp)) off trivial r
theorem allLt_cons {d a : Nat} {o : Obj} {r : List (Addr × Obj)} (h : AllLt d ((a, o) :: r)) : @LT.lt Nat _ a d ∧ AllLt d r := h
theorem off3_cons {I C D a : Nat} {o : Obj} {r : List (Addr × Obj)} (h : LCg.Off3 I C D ((a, o) :: r)) : (@Ne Nat a I) ∧ (@Ne Nat a C) ∧ (@Ne Nat a D) ∧ LCg.Off3 I C D r := ⟨h.1.1, h.1.2.1, h.1.2.2, h.2⟩
theorem off1_cons {D a : Nat} {o : Obj} {r : List (Addr × Obj)} (h : LCg.Off1 D ((a, o) :: r)) : (@Ne Nat a D) ∧ LCg.Off1 D r := h
theorem CompEnd.mono {h₀ : Heap} {L I C D : Addr} {m : Str → Option Value} {s₁ s₂ : Shared} {oI oC oD : Obj} {S : List (Addr × Obj) → Prop} {rest rest' : Value → List (Addr × Obj) → Prop} {y : Value}
    (hr : ∀ news, rest y news → rest' y news) (x : LCg.CompEnd h₀ L m s₁ I oI C oC D oD S rest y s₂) : LCg.CompEnd h₀ L m s₁ I oI C oC D oD S rest' y s₂ := by
  obtain ⟨h', tk, news', e, a, b, c, d, r⟩ := x
  exact ⟨h', tk, news', e, a, b, c, d, hr _ r⟩
/-- a comprehension of n turns by what holds between them -/
theorem comp_ind {prog : Program} {w : World} {A : Around} {h₀ : Heap} {L : Addr} {m : Str → Option Value} {env : Env} {elt : PySem.Expr} {x : Str} {scope : Scope} {cl : List (Str × Addr)} {s : Shared} {S : List (Addr × Obj) → Prop} {P : Nat → Value → Prop}
    {Fin : List Value → List (Addr × Obj) → Prop} {n : Nat} (Inv : Nat → List Value → List (Addr × Obj) → Prop)
    (step : ∀ i ys news, i < n → Inv i ys news → ∀ v I oI C oC D m₂ h tk (E' : Value → Shared → Prop), P i v → LCg.NsObj oC m₂ → m₂ x = some v → Fr h₀ L h m → News h₀ L h ((I, oI) :: (C, oC) :: (D, LCg.lst ys) :: news) → LCg.Off3 I C D news → ((@Ne Nat I C) ∧ (@Ne Nat I D) ∧ (@Ne Nat C D)) →
      wpAny (model prog w) A (eval elt (compEnvC scope cl C env)) (LCg.CompEnd h₀ L m { s with heap := h, toks := tk } I oI C oC D (LCg.lst ys) S (fun y news' => Inv (i + 1) (ys ++ [y]) news')) E' { s with heap := h, toks := tk })
    (fin : ∀ ys news, Inv n ys news → Fin ys news) : ∀ (k i : Nat) (ys : List Value) (news : List (Addr × Obj)), i + k = n → Inv i ys news → LCg.CompRest prog w A h₀ L m env elt x scope cl s S P Fin k i ys news
  | 0, i, ys, news, e, hI => LCg.CompRest.zero (fin ys news (by rw [Nat.add_zero] at e; exact e ▸ hI))
  | k + 1, i, ys, news, e, hI => LCg.CompRest.succ fun v I oI C oC D m₂ h tk E' h1 h2 h3 h4 h5 h6 h7 =>
    wpAny_mono (step i ys news (by omega) hI v I oI C oC D m₂ h tk E' h1 h2 h3 h4 h5 h6 h7) (fun _ _ q => CompEnd.mono (fun _ z => comp_ind Inv step fin k (i + 1) _ _ (by omega) z) q) fun _ _ q => q
theorem comp_start {h₀ h : Heap} {L : Addr} {l l1 l2 rest pre imm : List (Addr × Obj)} {p q r : Addr × Obj} (N : News h₀ L h l) (e1 : Ext p l l1) (e2 : Ext q l1 l2) (e3 : Ext r l2 rest) (sp : Split rest pre imm) : News h₀ L h (p :: q :: r :: (pre ++ ([] ++ imm))) := by
  have N1 : News h₀ L h l1 := fun x hx => e1.news N x (.tail _ hx)
  have N2 : News h₀ L h l2 := fun x hx => e2.news N1 x (.tail _ hx)
  have e := sp.eq
  subst e
  exact news_cons N ((e1.mem _).mpr (.inl rfl)) (news_cons N1 ((e2.mem _).mpr (.inl rfl)) (e3.news N2))
theorem comp_start2 {h₀ h : Heap} {L : Addr} {l l1 rest : List (Addr × Obj)} {p q : Addr × Obj} (N : News h₀ L h l) (e1 : Ext p l l1) (e2 : Ext q l1 rest) : News h₀ L h (p :: q :: rest) :=
  news_cons N ((e1.mem _).mpr (.inl rfl)) (e2.news fun x hx => e1.news N x (.tail _ hx))
theorem small3 {n : Nat} (h : n ≤ 3) : Builtin.Range.small 0 (n : Int) 1 = true := by
  have : n = 0 ∨ n = 1 ∨ n = 2 ∨ n = 3 := by omega
  rcases this with rfl | rfl | rfl | rfl <;> decide
theorem size3 {n : Nat} (h : n ≤ 3) : Builtin.Range.rangeSize 0 (n : Int) 1 = (n : Int) := by
  have : n = 0 ∨ n = 1 ∨ n = 2 ∨ n = 3 := by omega
  rcases this with rfl | rfl | rfl | rfl <;> rfl
/-- a letter lies off all of a written head -/
noncomputable def AllOff : List (Addr × Obj) → List (Addr × Obj) → Prop
  | [], _ => True
  | q :: r, X => (∀ p ∈ X, p.1 ≠ q.1) ∧ AllOff r X
theorem allOff_cons {X : List (Addr × Obj)} {a : Nat} {o : Obj} {r : List (Addr × Obj)} (h : AllOff ((a, o) :: r) X) : (∀ p ∈ X, p.1 ≠ a) ∧ AllOff r X := h
theorem AllOff.app {tl imm : List (Addr × Obj)} : ∀ {pre : List (Addr × Obj)}, (∀ p ∈ tl, ∀ q ∈ pre, q.1 ≠ p.1) → AllOff pre imm → AllOff pre (tl ++ imm)
  | [], _, _ => trivial
  | q :: r, h, k => ⟨fun p hp => (List.mem_append.mp hp).elim (fun h1 => Ne.symm (h p h1 q (.head _))) (k.1 p), AllOff.app (fun p hp q hq => h p hp q (.tail _ hq)) k.2⟩
theorem allLt_lt {d : Nat} : ∀ {l : List (Addr × Obj)}, AllLt d l → ∀ p ∈ l, @LT.lt Nat _ p.1 d
  | [], _, _, h => nomatch h
  | _ :: _, x, p, h => by
    rcases List.mem_cons.mp h with rfl | h
    · exact x.1
    · exact allLt_lt x.2 p h
theorem allLt_ne1 {d : Nat} {l : List (Addr × Obj)} (h : AllLt d l) : ∀ p ∈ l, p.1 ≠ d + 1 := fun p hp => Nat.ne_of_lt (Nat.lt_succ_of_lt (allLt_lt h p hp))
theorem allLt_ne2 {d : Nat} {l : List (Addr × Obj)} (h : AllLt d l) : ∀ p ∈ l, p.1 ≠ d + 1 + 1 := fun p hp => Nat.ne_of_lt (Nat.lt_succ_of_lt (Nat.lt_succ_of_lt (allLt_lt h p hp)))
theorem or3 {i : Int} (h : 0 ≤ i ∧ i < 3) : i = 0 ∨ i = 1 ∨ i = 2 := by omega
/-- a draw's bounds, kept from the walk's arithmetic -/
noncomputable def InW (m k : Int) : Prop := 0 ≤ k ∧ k < m
theorem InW.lo {m k : Int} (h : InW m k) : 0 ≤ k := h.1
theorem InW.hi {m k : Int} (h : InW m k) : k < m := h.2
theorem InW.to {m k : Int} (h : InW m k) : 0 ≤ k ∧ k < m := h
/-- a mark: the walk may go on -/
noncomputable def Mk2 : Prop := True
theorem Mk2.mk : Mk2 := trivial
theorem tl_eq {ys : List Value} : ys.toArray.toList = ys := rfl
theorem tup_sz {ys : List Value} (h : ys.length ≤ 3) : ys.toArray.size ≤ 16384 := by rw [List.size_toArray]; omega
noncomputable def MxOk (mx : Int) : Prop := 0 ≤ mx ∧ mx < 2147483647
noncomputable def Stop (P : Prop) : Prop := P
theorem Stop.out {P : Prop} (h : Stop P) : P := h
theorem Stop.into {P : Prop} (h : P) : Stop P := h
/-- the goal, named: what is opened beneath it costs little -/
theorem let_goal {P : Prop} (h : let G := P; G) : P := h
end
section
open PySem PySem.W PySem.Calls PyProof.Rows PyProof.V PySem.Spec
set_option Elab.async false
set_option maxRecDepth 100000
set_option maxHeartbeats 1000000
mutual
noncomputable def dOk : Dat → Bool
  | .bytes _ => false
  | .str x => PyData.strOk x
  | .tuple ds => dOks ds
  | .list ds => dOks ds
  | _ => true
noncomputable def dOks : List Dat → Bool
  | [] => true
  | d :: ds => dOk d && dOks ds
end
section
variable {h₀ h : Heap} {L : Addr} {news : List (Addr × Obj)}
mutual
theorem dat_reads (N : News h₀ L h news) : ∀ {v : Value} {d : Dat}, DatIn news v d → dOk d = true → ∃ as, Reads h v (kqdP d) as
  | _, _, .none, _ => ⟨_, Reads.none⟩
  | _, _, .bool b, _ => ⟨_, Reads.bool b⟩
  | _, _, .int i t, _ => ⟨_, Reads.int i t⟩
  | _, _, .str x t, _ => ⟨_, Reads.str x t⟩
  | _, _, .bytes _ _, hk => by unfold dOk at hk; cases hk
  | _, _, .tuple hm r, hk => by
    unfold dOk at hk
    obtain ⟨as, q⟩ := dats_reads N r hk
    rw [kqdP]
    exact ⟨as, reads_tuple_at (N.get hm) rfl rfl (by simpa using q)⟩
  | _, _, .list hm r, hk => by
    unfold dOk at hk
    obtain ⟨as, q⟩ := dats_reads N r hk
    rw [kqdP]
    exact ⟨_, reads_list_at (N.get hm) rfl rfl (by simpa [PySem.W.listOf] using q)⟩
theorem dats_reads (N : News h₀ L h news) : ∀ {vs : List Value} {ds : List Dat}, DatAll news vs ds → dOks ds = true → ∃ as, ReadsAll h vs (kqdPs ds) as
  | _, _, .nil, _ => ⟨_, ReadsAll.nil⟩
  | _, _, .cons hd r, hk => by
    unfold dOks at hk
    obtain ⟨k1, k2⟩ := Bool.and_eq_true_iff.mp hk
    obtain ⟨as, q⟩ := dat_reads N hd k1
    obtain ⟨bs, p⟩ := dats_reads N r k2
    rw [kqdPs]
    exact ⟨_, ReadsAll.cons q p⟩
end
end
mutual
theorem dat_lay : ∀ d : Dat, dOk d = true → (kqdP d).canLay0 = true
  | .none, _ => rfl
  | .bool _, _ => rfl
  | .int _, _ => rfl
  | .str x, h => by unfold dOk at h; rw [kqdP, PyData.canLay0]; exact h
  | .bytes _, _ => rfl
  | .tuple ds, h => by unfold dOk at h; rw [kqdP, PyData.canLay0]; exact dats_lay ds h
  | .list ds, h => by unfold dOk at h; rw [kqdP, PyData.canLay0]; exact dats_lay ds h
theorem dats_lay : ∀ ds : List Dat, dOks ds = true → PyData.canLayAll0 (kqdPs ds) = true
  | [], _ => rfl
  | d :: ds, h => by
    unfold dOks at h
    obtain ⟨k1, k2⟩ := Bool.and_eq_true_iff.mp h
    rw [kqdPs, PyData.canLayAll0, dat_lay d k1, dats_lay ds k2]
    rfl
end
section
variable {prog : Program} {w : World} {A : Around} {E : Value → Shared → Prop} {s : Shared} {h₀ : Heap} {L : Addr} {m : Str → Option Value} {news : List (Addr × Obj)}
/-- two data compared -/
theorem eq_dat {a b : Value} {d e : Dat} {Q : Value → Shared → Prop} (N : News h₀ L s.heap news) (ha : DatIn news a d) (hb : DatIn news b e) (ka : dOk d = true) (kb : dOk e = true) (hu : A.units + (kqdP d).depth < cLine)
    (h : Q (.bool (PyData.eqv (kqdP d) (kqdP e))) s) : wpAny (model prog w) A (compareOp .Eq a b) Q E s := by
  obtain ⟨as, ra⟩ := dat_reads N ha ka
  obtain ⟨bs, rb⟩ := dat_reads N hb kb
  have := Nat.min_le_left (kqdP d).depth (kqdP e).depth
  exact SeqAt.compareEq_reads ra rb (dat_lay d ka) (dat_lay e kb) (by omega) h
theorem ne_dat {a b : Value} {d e : Dat} {Q : Value → Shared → Prop} (N : News h₀ L s.heap news) (ha : DatIn news a d) (hb : DatIn news b e) (ka : dOk d = true) (kb : dOk e = true) (hu : A.units + (kqdP e).depth < cLine)
    (h : Q (.bool (!PyData.eqv (kqdP d) (kqdP e))) s) : wpAny (model prog w) A (compareOp .NotEq a b) Q E s := by
  obtain ⟨as, ra⟩ := dat_reads N ha ka
  obtain ⟨bs, rb⟩ := dat_reads N hb kb
  have := Nat.min_le_right (kqdP d).depth (kqdP e).depth
  exact SeqAt.compareNe_reads ra rb (dat_lay d ka) (dat_lay e kb) (by omega) h
/-- a statement, then the rest, with a word between them -/
theorem execs_cut {M : Model} {st : Stmt} {rest : List Stmt} {env : Env} {Q : Flow → Shared → Prop} (J : Shared → Prop) (h1 : wpAny M A (exec st env) (fun f s' => match f with | .next => J s' | f => Q f s') E s)
    (h2 : ∀ s', J s' → wpAny M A (execs rest env) Q E s') : wpAny M A (execs (st :: rest) env) Q E s :=
  wpAny_execs_cons (wpAny_mono h1 (fun f s' h => by
    cases f with
    | next => exact h2 s' h
    | _ => exact h) fun _ _ h => h)
/-- the frame's map, named -/
theorem let_m {P : Prop} {h : Heap} (F : Fr h₀ L h m) (k : let m' := m; Fr h₀ L h m' → P) : P := k F
/-- two things of unlike classes stand apart -/
theorem neC {h : Heap} {a b : Nat} {o o' : Obj} (N : News h₀ L h news) (ha : (a, o) ∈ news) (hb : (b, o') ∈ news) (hc : o.cls ≠ o'.cls) : @Ne Nat a b := fun e => by
  have g1 := (N _ ha).1
  have g2 := (N _ hb).1
  dsimp only at g1 g2
  rw [show a = b from e, g2] at g1
  exact hc (congrArg Obj.cls (Option.some.inj g1).symm)
theorem tl_ne : Value.type "tuple" ≠ Value.type "list" := fun e => absurd (Value.type.inj e) (by decide)
theorem fresh3 {d c f D : Nat} {o1 o2 o3 p1 p2 p3 : Obj} {nw imm : List (Addr × Obj)} (l1 : ∀ p ∈ nw, p.1 < D) (h1 : (d, p1) ∈ nw) (h2 : (c, p2) ∈ nw) (h3 : (f, p3) ∈ nw) (sub : ∀ p ∈ imm, p ∈ nw) : ∀ q ∈ (d, o1) :: (c, o2) :: (f, o3) :: imm, q.1 ≠ D := fun q hq => by
  rcases List.mem_cons.mp hq with rfl | hq
  · exact Nat.ne_of_lt (l1 (d, p1) h1)
  · rcases List.mem_cons.mp hq with rfl | hq
    · exact Nat.ne_of_lt (l1 (c, p2) h2)
    · rcases List.mem_cons.mp hq with rfl | hq
      · exact Nat.ne_of_lt (l1 (f, p3) h3)
      · exact Nat.ne_of_lt (l1 _ (sub _ hq))
/-- the frame, named -/
theorem let_env {M : Model} {A₁ : Around} {env : Env} {body : List Stmt} {Q : Flow → Shared → Prop} (h : let e := env; wpAny M (A₁.deeper e) (execs body e) Q E s) : wpAny M (A₁.deeper env) (execs body env) Q E s := h
theorem Fr.any {h : Heap} (x : Str) (F : Fr h₀ L h m) : Fr h₀ L h (fun z => if z = x then m x else m z) := by
  have e : (fun z => if z = x then m x else m z) = m := by
    funext z
    split
    · rename_i q; rw [q]
    · rfl
  rw [e]
  exact F
end
end
section
open PySem PySem.W PySem.Calls PyProof.Rows
set_option Elab.async false
set_option maxRecDepth 100000
set_option maxHeartbeats 1000000
section
variable {prog : Program} {w : World} {A : Around} {E : Value → Shared → Prop} {s : Shared} {h₀ : Heap} {L : Addr} {m : Str → Option Value} {news : List (Addr × Obj)}
theorem sliceApplied_upto {sl : Addr} {b n : Nat} {u : Tok} {Q : Int × Int × Nat → Shared → Prop} (hs : s.heap.IsSliceOf sl .none (.int b u) .none) (hb : b ≤ n) (h : Q (0, 1, b) s) :
    wpAny (model prog w) A (Builtin.Slice.sliceApplied (.ref sl) (pure (n : Int))) Q E s := by
  obtain ⟨os, hos, hcs, hds⟩ := id hs
  unfold Builtin.Slice.sliceApplied Builtin.Slice.sliceFields
  refine wpAny_bind (wpAny_bind (wpAny_field hos hds (x := .none) rfl (wpAny_bind (wpAny_field hos hds (x := .int b u) rfl (wpAny_bind (wpAny_field hos hds (x := .none) rfl (wpAny_pure ?_)))))))
  refine wpAny_bind (slicePart_none ?_)
  show wpAny _ _ (if ((1 : Int) == 0) = true then _ else _) _ _ s
  rw [if_neg (by decide)]
  refine wpAny_bind (slicePart_none (wpAny_bind (slicePart_int (wpAny_bind (wpAny_pure ?_)))))
  have e : Builtin.Slice.sliceAdjust none (some (b : Int)) 1 (n : Int) = ((0 : Int), (b : Int)) := by
    unfold Builtin.Slice.sliceAdjust
    have h1 : ¬ ((1 : Int) < 0) := by omega
    have h2 : ¬ ((b : Int) < 0) := by omega
    simp only [h1, h2, if_false]
    congr 1
    omega
  show wpAny _ _ (match Builtin.Slice.sliceAdjust none (some (b : Int)) 1 (n : Int) with | (lo, hi) => pure (lo, (1 : Int), Builtin.Slice.slicePlaces lo hi 1)) _ _ s
  rw [e]
  show wpAny _ _ (pure ((0 : Int), (1 : Int), Builtin.Slice.slicePlaces 0 (b : Int) 1)) _ _ s
  have e2 : Builtin.Slice.slicePlaces 0 (b : Int) 1 = b := by
    unfold Builtin.Slice.slicePlaces
    have h1 : (1 : Int) > 0 := by omega
    simp only [h1, if_true, Int.ediv_one]
    split <;> omega
  rw [e2]
  exact wpAny_pure h
theorem sliceApplied_rev {sl : Addr} {n : Nat} {u : Tok} {Q : Int × Int × Nat → Shared → Prop} (hs : s.heap.IsSliceOf sl .none .none (.int (-1) u)) (h : Q ((n : Int) - 1, -1, n) s) :
    wpAny (model prog w) A (Builtin.Slice.sliceApplied (.ref sl) (pure (n : Int))) Q E s := by
  obtain ⟨os, hos, hcs, hds⟩ := id hs
  unfold Builtin.Slice.sliceApplied Builtin.Slice.sliceFields
  refine wpAny_bind (wpAny_bind (wpAny_field hos hds (x := .none) rfl (wpAny_bind (wpAny_field hos hds (x := .none) rfl (wpAny_bind (wpAny_field hos hds (x := .int (-1) u) rfl (wpAny_pure ?_)))))))
  refine wpAny_bind (slicePart_int ?_)
  show wpAny _ _ (if ((-1 : Int) == 0) = true then _ else _) _ _ s
  rw [if_neg (by decide)]
  refine wpAny_bind (slicePart_none (wpAny_bind (slicePart_none (wpAny_bind (wpAny_pure ?_)))))
  have e : Builtin.Slice.sliceAdjust none none (-1) (n : Int) = ((n : Int) - 1, (-1 : Int)) := by
    unfold Builtin.Slice.sliceAdjust
    simp
  show wpAny _ _ (match Builtin.Slice.sliceAdjust none none (-1) (n : Int) with | (lo, hi) => pure (lo, (-1 : Int), Builtin.Slice.slicePlaces lo hi (-1))) _ _ s
  rw [e]
  show wpAny _ _ (pure ((n : Int) - 1, (-1 : Int), Builtin.Slice.slicePlaces ((n : Int) - 1) (-1) (-1))) _ _ s
  have e2 : Builtin.Slice.slicePlaces ((n : Int) - 1) (-1) (-1) = n := by
    unfold Builtin.Slice.slicePlaces
    have h1 : ¬ ((-1 : Int) > 0) := by omega
    have h2 : (- -1 : Int) = 1 := by decide
    simp only [h1, if_false, h2, Int.ediv_one]
    split <;> omega
  rw [e2]
  exact wpAny_pure h
theorem getItem_tuple_pick {t sl : Addr} {items : Array Value} {vl vu vk : Value} {lo step : Int} {n : Nat} {zs : List Value} {Q : Value → Shared → Prop} (ht : IsTup s.heap t items) (hs : s.heap.IsSliceOf sl vl vu vk)
    (ha : ∀ {A : Around} {E : Value → Shared → Prop} {Q : Int × Int × Nat → Shared → Prop}, Q (lo, step, n) s → wpAny (model prog w) A (Builtin.Slice.sliceApplied (.ref sl) (pure (items.size : Int))) Q E s)
    (hno : ¬ ((lo == 0 && step == 1 && n == items.size) = true)) (hz : ((List.range n).filterMap fun (k : Nat) => items[(lo + (k : Int) * step).toNat]?) = zs)
    (h : Q (.ref s.heap.objs.size) { s with heap := s.heap.push { cls := .type "tuple", data := .seq zs.toArray } })
    (hsz : zs.length ≤ sizeLine) : wpAny (model prog w) A (getItem (.ref t) (.ref sl)) Q E s := by
  have hdrop : sizeOk (.seq zs.toArray) := by
    show zs.toArray.size ≤ sizeLine
    rw [List.size_toArray]
    exact hsz
  obtain ⟨os, hos, hcs, hds⟩ := id hs
  have hTs : s.TypeIs (.ref sl) "slice" := ⟨os, hos, hcs⟩
  unfold getItem
  try with_reducible refine wpAny_holding ?_
  first | refine wpAny_bind (wpAny_pure ?_) | skip
  refine wpAny_bind (wpAny_sequenceKey ht.typeIs (by decide) ?_)
  refine wpAny_bind (wpAny_callSpecial?_slot (name := Str.ofString "__getitem__") ht.typeIs slot_tuple_getitem
    (wpAny_call_entry slot_tuple_getitem ht.typeIs entry_tuple_getitem ?_ (args_tuple_getitem _ _)))
  show wpAny _ _ (Builtin.Tuple.tupleItemsOf (.ref t) >>= _) _ _ s
  refine wpAny_bind (tupleItemsOf_ ht ?_)
  refine wpAny_bind (wpAny_typeOf hTs ?_)
  rw [if_pos (by decide)]
  refine wpAny_bind (ha ?_)
  show wpAny _ _ (if (lo == 0 && step == 1 && n == items.size) = true then _ else _) _ _ s
  rw [if_neg hno, hz]
  first
    | exact wpAny_bind (m := Builtin.Tuple.tupleExact _) (wpAny_newObj_type (wpAny_pure ⟨_, rfl, wpAny_pure h⟩) hdrop)
    | exact wpAny_bind (m := Builtin.Tuple.tupleExact _) (wpAny_newObj_type (wpAny_bind (wpAny_pure (wpAny_pure ⟨_, rfl, wpAny_pure h⟩))) hdrop)
    | exact wpAny_bind (wpAny_bind (m := Builtin.Tuple.tupleExact _) (wpAny_newObj_type (wpAny_pure (wpAny_pure ⟨_, rfl, wpAny_pure h⟩)) hdrop))
    | exact wpAny_bind (wpAny_bind (m := Builtin.Tuple.tupleExact _) (wpAny_newObj_type (wpAny_pure ⟨_, rfl, wpAny_pure h⟩) hdrop))
/-- a slice of a tuple in the ledger, as the walk meets it -/
theorem slice_tup {value slice : Expr} {t : Addr} {vs : List Value} {vl vu vk : Value} {lo step : Int} {n : Nat} {zs : List Value} {ops : List Value} {nn : Nat} {Q : Value → Shared → Prop}
    (F : Fr h₀ L s.heap m) (N : News h₀ L s.heap news) (hm : (t, ({ cls := .type "tuple", data := .seq vs.toArray nn } : Obj)) ∈ news)
    (ha : ∀ {s : Shared} {sl : Addr} {A : Around} {E : Value → Shared → Prop} {Q : Int × Int × Nat → Shared → Prop}, s.heap.IsSliceOf sl vl vu vk → Q (lo, step, n) s → wpAny (model prog w) A (Builtin.Slice.sliceApplied (.ref sl) (pure (vs.length : Int))) Q E s)
    (hno : (lo == 0 && step == 1 && n == vs.length) = false) (hz : ((List.range n).filterMap fun (k : Nat) => vs[(lo + (k : Int) * step).toNat]?) = zs)
    (h : ∀ D h', Fr h₀ L h' m → News h₀ L h' ((D, { cls := .type "tuple", data := .seq zs.toArray 0 }) :: news) → (∀ p ∈ news, p.1 < D) → Q (.ref D) { s with heap := h' })
    (hs : subscripted slice false (.ref t) (.ref s.heap.objs.size) = operate ops (getItem (.ref t) (.ref s.heap.objs.size)))
    (hg : ∀ r, letTemporaryGo value (.ref t) r = pure ())
    (hsz : zs.length ≤ 1000) :
    wpAny (model prog w) A (subscriptTail value slice (.ref t) (.ref s.heap.objs.size)) Q E { s with heap := s.heap.push { cls := .type "slice", data := .fields #[vl, vu, vk] } } := by
  have ht : IsTup s.heap t vs.toArray := News.isTup N hm
  have ht' : IsTup (s.heap.push { cls := .type "slice", data := .fields #[vl, vu, vk] }) t vs.toArray := ht.keeps fun _ _ e => Heap.get?_push_of_some _ e
  have hsl := Heap.IsSliceOf.new s.heap vl vu vk
  have e1 : vs.toArray.size = vs.length := List.size_toArray ..
  refine subscriptTail_ops (s := { s with heap := s.heap.push { cls := .type "slice", data := .fields #[vl, vu, vk] } }) ht'.typeIs slot_tuple_getitem.lookup
    (getItem_tuple_pick (lo := lo) (step := step) (n := n) (zs := zs) ht' hsl (fun q => by rw [e1]; exact ha hsl q) (by rw [e1, hno]; exact Bool.false_ne_true) (by rw [← hz]; simp only [List.getElem?_toArray]) ?_ (Nat.le_trans hsz (by decide +kernel))) hs hg
  have N1 := News.push (F.push { cls := .type "slice", data := .fields #[vl, vu, vk] }) (N.grown fun _ _ e => Heap.get?_push_of_some _ e) { cls := .type "tuple", data := .seq zs.toArray }
  rw [Heap.size_push] at N1
  show Q (.ref (s.heap.push _).objs.size) _
  rw [Heap.size_push]
  exact h _ _ ((F.push _).push _) N1 fun p hp => Nat.lt_succ_of_lt (Heap.lt_size (N p hp).1)
theorem sl_upto {prog : Program} {w : World} {b n : Nat} {u : Tok} (hb : b ≤ n) : ∀ {s : Shared} {sl : Addr} {A : Around} {E : Value → Shared → Prop} {Q : Int × Int × Nat → Shared → Prop}, s.heap.IsSliceOf sl .none (.int b u) .none → Q (0, 1, b) s → wpAny (model prog w) A (Builtin.Slice.sliceApplied (.ref sl) (pure (n : Int))) Q E s :=
  fun hs h => sliceApplied_upto hs hb h
theorem sl_from {prog : Program} {w : World} {a n : Nat} {u : Tok} (ha : a ≤ n) : ∀ {s : Shared} {sl : Addr} {A : Around} {E : Value → Shared → Prop} {Q : Int × Int × Nat → Shared → Prop}, s.heap.IsSliceOf sl (.int a u) .none .none → Q ((a : Int), 1, n - a) s → wpAny (model prog w) A (Builtin.Slice.sliceApplied (.ref sl) (pure (n : Int))) Q E s :=
  fun hs h => sliceApplied_from hs ha h
theorem sl_rev {prog : Program} {w : World} {n : Nat} {u : Tok} : ∀ {s : Shared} {sl : Addr} {A : Around} {E : Value → Shared → Prop} {Q : Int × Int × Nat → Shared → Prop}, s.heap.IsSliceOf sl .none .none (.int (-1) u) → Q ((n : Int) - 1, -1, n) s → wpAny (model prog w) A (Builtin.Slice.sliceApplied (.ref sl) (pure (n : Int))) Q E s :=
  fun hs h => sliceApplied_rev hs h
end
end
section
open PySem PySem.W PySem.Calls PyProof.Rows PyProof.Rows.LCg
set_option Elab.async false
set_option maxRecDepth 100000
set_option maxHeartbeats 1000000
/-- the ledger bears the tuple that a comprehension runs over -/
noncomputable def TupSrc (h₀ : Heap) (ax : Addr) (vs : List Value) (news : List (Addr × Obj)) : Prop := ∃ n, (ax, ({ cls := .type "tuple", data := .seq vs.toArray n } : Obj)) ∈ news
section
variable {prog : Program} {w : World} {A : Around} {E : Value → Shared → Prop} {s : Shared} {h₀ : Heap} {L : Addr} {m : Str → Option Value} {env : Env}
theorem TupSrc.tup {h : Heap} {ax : Addr} {vs : List Value} {news : List (Addr × Obj)} (x : TupSrc h₀ ax vs news) (N : News h₀ L h news) : h.IsTuple ax vs.toArray := by
  obtain ⟨n, hm⟩ := x
  exact ⟨_, (N _ hm).1, rfl, n, rfl⟩
noncomputable def SrcT (prog : Program) (w : World) (A : Around) (h₀ : Heap) (L : Addr) (m : Str → Option Value) (env : Env) (elt : Expr) (x : Str) (scope : Scope) (cl : List (Str × Addr)) (Fin : Shared → List Value → List (Addr × Obj) → Prop) (xv : Value) (s₁ : Shared) : Prop :=
  ∃ ax vs news, xv = .ref ax ∧ A.handled = none ∧ Fr h₀ L s₁.heap m ∧ News h₀ L s₁.heap news ∧ TupSrc h₀ ax vs news ∧ vs.length ≤ 1000 ∧
    ∀ s₂ : Shared, (∃ h, s₂ = { s₁ with heap := h }) → CompRest prog w A h₀ L m env elt x scope cl s₂ (TupSrc h₀ ax vs) (fun i v => vs[i]? = some v) (Fin s₂) vs.length 0 [] news
theorem tup_st {ax I : Addr} {vs : List Value} : ∀ i (h h' : Heap) (o : Obj) (nw : List (Addr × Obj)), (h.IsTupleIter I ax i ∧ h.IsTuple ax vs.toArray) → h.get? I = some o → h'.get? I = some o → (∀ b o, h₀.get? b = some o → h'.get? b = some o) → News h₀ L h' nw → TupSrc h₀ ax vs nw → (h'.IsTupleIter I ax i ∧ h'.IsTuple ax vs.toArray) :=
  fun i h h' o nw st e e' _ N S => ⟨by obtain ⟨o', q, r⟩ := st.1; rw [e] at q; cases q; exact ⟨o, e', r⟩, S.tup N⟩
theorem ListComp_T {elt iter : Expr} {x : Str} {px : Pos} {scope : Scope} {cl : List (Str × Addr)} {pos : Pos} {Q : Value → Shared → Prop} (_F₀ : Fr h₀ L s.heap m)
    (hclos : closureFor scope env = pure cl) (hcell : ∀ y ∈ scope.names, y.2 ≠ .cell) (hkind : scope.kind = .function)
    (hnames : ∀ y ∈ scope.names, y.2 = .local → scope.names.lookup y.1 = some .local) (hx : scope.names.lookup x = some .local)
    (h : wpAny (model prog w) A (eval iter env) (SrcT prog w A h₀ L m env elt x scope cl (fun s₂ => FinE h₀ L m s₂ Q)) E s)
    (hs : ∀ x, foldedSetIterable iter env x = pure x := by intro _; rfl) :
    wpAny (model prog w) A (eval (.ListComp elt [⟨.Name x px, iter, [], 0⟩] scope pos) env) Q E s := by
  rw [eval_ListComp]
  refine wpAny_comprehension_free (use := none) rfl hs hclos hkind hnames (wpAny_mono h (fun xv s₁ h₁ => ?_) fun _ _ e => e)
  obtain ⟨ax, vs, news, rfl, hh, F, N, S, hsz, R⟩ := h₁
  have hl := S.tup N
  have hlt : ax < s₁.heap.objs.size := by obtain ⟨_, e, _⟩ := hl; exact Heap.lt_size e
  have e1 : vs.toArray.size = vs.length := List.size_toArray ..
  refine wpAny_pyIter_tuple hl ?_
  have up : ∀ b o, s₁.heap.get? b = some o → (s₁.heap.push { cls := .type "tuple_iterator", data := .fields #[.ref ax, .int 0 0] }).get? b = some o := fun b o e => Heap.get?_push_of_some _ e
  have R' := R { s₁ with heap := s₁.heap.push { cls := .type "tuple_iterator", data := .fields #[.ref ax, .int 0 0] } } ⟨_, rfl⟩
  rw [← e1] at R'
  have hP : (fun (i : Nat) (v : Value) => vs.toArray[i]? = some v) = fun i v => vs[i]? = some v := by funext i v; rw [List.getElem?_toArray]
  refine block_U (by rw [← hP]; exact Walks.tuple hh s₁.heap.objs.size ax (Nat.ne_of_lt hlt) vs.toArray) (Nat.le_trans (by rw [e1]; exact hsz) (by decide +kernel)) (fun i h st => by obtain ⟨o, e, _⟩ := st.1; exact ⟨o, e⟩) tup_st hcell hkind hx ⟨⟨_, Heap.get?_push_size _ rfl, rfl, rfl⟩, ⟨_, up _ _ hl.choose_spec.1, hl.choose_spec.2⟩⟩ (fun b hb => ?_)
    (F.keeps up) (N.grown up) (Nat.ne_of_lt F.ns.lt) (next_is_new F) (fun p hp => Nat.ne_of_lt (Heap.lt_size (N p hp).1)) S R' ?_
  · show b < (s₁.heap.push _).objs.size
    rw [Heap.size_push]
    rcases List.mem_cons.mp hb with rfl | hb
    · exact Nat.lt_succ_self _
    · rw [List.mem_singleton.mp hb]; exact Nat.lt_succ_of_lt hlt
  · intro D C h tk m' ys news' F' N' o1 hn hC₀ hD₀ hCL hDL hCD offC fin
    refine ⟨m', hn, fun h'' hs'' => fin D h'' tk (F'.change hs'' hCL hC₀) (fun p hp => ?_) o1⟩
    refine ⟨hs''.extBut _ _ ?_ (N' p hp).1, (N' p hp).2⟩
    rcases List.mem_cons.mp hp with rfl | hp
    · exact Ne.symm hCD
    · exact offC p hp
theorem Assign_ListComp_T {elt iter : Expr} {x y : Str} {px py : Pos} {scope : Scope} {cl : List (Str × Addr)} {pos spos : Pos} {Q : Flow → Shared → Prop} (_F₀ : Fr h₀ L s.heap m) (hLe : env.locals = L)
    (hsw : swapsWith (.ListComp elt [⟨.Name x px, iter, [], 0⟩] scope pos) (some (.Name y py)) spos.line env = pure true)
    (hclos : closureFor scope env = pure cl) (hcell : ∀ z ∈ scope.names, z.2 ≠ .cell) (hkind : scope.kind = .function)
    (hnames : ∀ z ∈ scope.names, z.2 = .local → scope.names.lookup z.1 = some .local) (hx : scope.names.lookup x = some .local)
    (hy : env.kindOf y = some .local) (hp : (env.scope.kind == .class || (env.scope.kind == .module && env.locals != env.globals)) = false)
    (h : wpAny (model prog w) A (eval iter env) (SrcT prog w A h₀ L m env elt x scope cl (fun s₂ => FinA h₀ L m s₂ y Q)) E s)
    (hs : ∀ x, foldedSetIterable iter env x = pure x := by intro _; rfl) :
    wpAny (model prog w) A (exec (.Assign [.Name y py] (.ListComp elt [⟨.Name x px, iter, [], 0⟩] scope pos) spos) env) Q E s := by
  subst hLe
  rw [exec_Assign_Name_used _ _ _ _ hsw]
  refine wpAny_bind (wpAny_standAt (wpAny_bind ?_))
  show wpAny _ A (do let _ ← comprehension (.ListComp elt [⟨.Name x px, iter, [], 0⟩] scope pos) scope env _ (newList []) false (eval iter env) (some (assign (.Name y py) env))) _ _ s
  refine wpAny_bind (wpAny_mono (wpAny_comprehension_free (use := some (assign (.Name y py) env)) (Q := fun _ s' => Q .next s') rfl hs hclos hkind hnames
    (wpAny_mono h (fun xv s₁ h₁ => ?_) fun _ _ e => e)) (fun _ s' hq => wpAny_pure (wpAny_pure hq)) fun _ _ e => e)
  obtain ⟨ax, vs, news, rfl, hh, F, N, S, hsz, R⟩ := h₁
  have hl := S.tup N
  have hlt : ax < s₁.heap.objs.size := by obtain ⟨_, e, _⟩ := hl; exact Heap.lt_size e
  have e1 : vs.toArray.size = vs.length := List.size_toArray ..
  refine wpAny_pyIter_tuple hl ?_
  have up : ∀ b o, s₁.heap.get? b = some o → (s₁.heap.push { cls := .type "tuple_iterator", data := .fields #[.ref ax, .int 0 0] }).get? b = some o := fun b o e => Heap.get?_push_of_some _ e
  have R' := R { s₁ with heap := s₁.heap.push { cls := .type "tuple_iterator", data := .fields #[.ref ax, .int 0 0] } } ⟨_, rfl⟩
  rw [← e1] at R'
  have hP : (fun (i : Nat) (v : Value) => vs.toArray[i]? = some v) = fun i v => vs[i]? = some v := by funext i v; rw [List.getElem?_toArray]
  refine block_U (by rw [← hP]; exact Walks.tuple hh s₁.heap.objs.size ax (Nat.ne_of_lt hlt) vs.toArray) (Nat.le_trans (by rw [e1]; exact hsz) (by decide +kernel)) (fun i h st => by obtain ⟨o, e, _⟩ := st.1; exact ⟨o, e⟩) tup_st hcell hkind hx ⟨⟨_, Heap.get?_push_size _ rfl, rfl, rfl⟩, ⟨_, up _ _ hl.choose_spec.1, hl.choose_spec.2⟩⟩ (fun b hb => ?_)
    (F.keeps up) (N.grown up) (Nat.ne_of_lt F.ns.lt) (next_is_new F) (fun p hp => Nat.ne_of_lt (Heap.lt_size (N p hp).1)) S R' ?_
  · show b < (s₁.heap.push _).objs.size
    rw [Heap.size_push]
    rcases List.mem_cons.mp hb with rfl | hb
    · exact Nat.lt_succ_self _
    · rw [List.mem_singleton.mp hb]; exact Nat.lt_succ_of_lt hlt
  · intro D C h' tk m' ys news' F' N' o1 hn hC₀ hD₀ hCL hDL hCD offC fin
    show wpAny _ A (assign (.Name y py) env (.ref D)) _ _ _
    refine wpAny_assign_Name (wpAny_storeName_local hy F'.ns (fun h₂ hn₂ hs₂ => ?_) hp)
    have hL₀ : h₀.get? env.locals = none := Heap.get?_none_of_le F'.above
    have F₂ : Fr h₀ env.locals h₂ (fun z => if z = y then some (.ref D) else m z) := ⟨hn₂, fun b o e => hs₂.extBut b o (fun q => by rw [q, hL₀] at e; cases e) (F'.keep b o e), F'.above⟩
    refine ⟨m', hn.sameBut hs₂ hCL, fun h'' hs'' => fin D h'' _ (F₂.change hs'' hCL hC₀) (fun p hp => ?_) o1⟩
    have z : h₂.get? p.1 = some p.2 := hs₂.extBut _ _ (N' p hp).2.1 (N' p hp).1
    refine ⟨hs''.extBut _ _ ?_ z, (N' p hp).2⟩
    rcases List.mem_cons.mp hp with rfl | hp
    · exact Ne.symm hCD
    · exact offC p hp
end
end
section
open PySem PySem.W PySem.Calls PyProof.Rows PyProof.Rows.LCg
set_option Elab.async false
set_option maxRecDepth 100000
set_option maxHeartbeats 1000000
section
variable {prog : Program} {w : World} {A : Around} {E : Value → Shared → Prop} {s : Shared} {h₀ : Heap} {L : Addr} {m : Str → Option Value} {env : Env} {l : List (Addr × Obj)}
/-- a turn's end -/
noncomputable def TurnEnd {σ : Type} (h₀ : Heap) (L : Addr) (m : Str → Option Value) (s₁ : Shared) (I C D : Addr) (oI oC oD : Obj) (led : σ → List (Addr × Obj)) (Inv : Value → σ → Prop) (y : Value) (s₂ : Shared) : Prop :=
  ∃ h' tk l' x', s₂ = { s₁ with heap := h', toks := tk } ∧ Fr h₀ L h' m ∧ News h₀ L h' l' ∧ (I, oI) ∈ l' ∧ (C, oC) ∈ l' ∧ (D, oD) ∈ l' ∧ (∀ p ∈ led x', p ∈ l') ∧ Off3 I C D (led x') ∧ Inv y x'
theorem TurnEnd.mk {σ : Type} {s₁ : Shared} {I C D : Addr} {oI oC oD : Obj} {led : σ → List (Addr × Obj)} {Inv : Value → σ → Prop} {y : Value} {h' : Heap} {tk : Nat} {l' : List (Addr × Obj)} (x' : σ) (F : Fr h₀ L h' m) (N : News h₀ L h' l') (h1 : (I, oI) ∈ l') (h2 : (C, oC) ∈ l') (h3 : (D, oD) ∈ l') (h4 : ∀ p ∈ led x', p ∈ l') (h5 : Off3 I C D (led x')) (h6 : Inv y x') :
    TurnEnd h₀ L m s₁ I C D oI oC oD led Inv y { s₁ with heap := h', toks := tk } := ⟨h', tk, l', x', rfl, F, N, h1, h2, h3, h4, h5, h6⟩
/-- a comprehension over a tuple of the ledger, by what holds between its turns -/
theorem comp_tup {elt : Expr} {x : Str} {scope : Scope} {cl : List (Str × Addr)} {ax : Addr} {vs : List Value} {n0 : Nat} {Fin : Shared → List Value → List (Addr × Obj) → Prop} {σ : Type} (led : σ → List (Addr × Obj)) (Inv : Nat → List Value → σ → Prop) (x0 : σ)
    (hh : A.handled = none) (F : Fr h₀ L s.heap m) (N : News h₀ L s.heap l) (sub : ∀ p ∈ led x0, p ∈ l) (hsrc : ∀ y, (ax, ({ cls := .type "tuple", data := .seq vs.toArray n0 } : Obj)) ∈ led y) (hsz : vs.length ≤ 1000) (h0 : Inv 0 [] x0)
    (step : ∀ i ys y v, vs[i]? = some v → Inv i ys y → ∀ I oI C oC D m₂ h tk (E' : Value → Shared → Prop), NsObj oC m₂ → m₂ x = some v → Fr h₀ L h m → News h₀ L h ((I, oI) :: (C, oC) :: (D, lst ys) :: led y) → Off3 I C D (led y) →
      wpAny (model prog w) A (eval elt (compEnvC scope cl C env)) (TurnEnd h₀ L m { s with heap := h, toks := tk } I C D oI oC (lst ys) led (fun z y' => Inv (i + 1) (ys ++ [z]) y')) E' { s with heap := h, toks := tk })
    (fin : ∀ g ys y, Inv vs.length ys y → Fin { s with heap := g } ys (led y)) : SrcT prog w A h₀ L m env elt x scope cl Fin (.ref ax) s := by
  refine ⟨ax, vs, led x0, rfl, hh, F, news_sub N sub, ⟨n0, hsrc x0⟩, hsz, ?_⟩
  rintro s₂ ⟨g, rfl⟩
  refine (fun G => G vs.length 0 [] x0 (by omega) h0) (?_ : ∀ k i ys y, i + k = vs.length → Inv i ys y → CompRest prog w A h₀ L m env elt x scope cl { s with heap := g } (TupSrc h₀ ax vs) (fun i v => vs[i]? = some v) (Fin { s with heap := g }) k i ys (led y))
  intro k
  induction k with
  | zero =>
    intro i ys y e hI
    have e : i = vs.length := e
    subst e
    exact CompRest.zero (fin g ys y hI)
  | succ k ih =>
    intro i ys y e hI
    refine CompRest.succ fun v I oI C oC D m₂ h tk E' h1 h2 h3 h4 h5 h6 h7 => ?_
    refine wpAny_mono (step i ys y v h1 hI I oI C oC D m₂ h tk E' h2 h3 h4 h5 h6) (fun z s2 q => ?_) fun _ _ q => q
    obtain ⟨h', tk', l', x', rfl, F', N', a1, a2, a3, a4, a5, a6⟩ := q
    exact CompEnd.intro F' N' (led x') (fun p hp => by
      rcases List.mem_cons.mp hp with rfl | hp
      · exact a1
      · rcases List.mem_cons.mp hp with rfl | hp
        · exact a2
        · rcases List.mem_cons.mp hp with rfl | hp
          · exact a3
          · exact a4 p hp) a5 ⟨n0, hsrc x'⟩ (ih (i + 1) _ x' (by omega) a6)
theorem off3_app {I C D : Addr} {tl l l0 : List (Addr × Obj)} {oI oC oD : Obj} (hf : ∀ p ∈ tl, ∀ q ∈ (I, oI) :: (C, oC) :: (D, oD) :: l0, q.1 ≠ p.1) (h : Off3 I C D l) : Off3 I C D (tl ++ l) :=
  off3_of (fun p hp => (List.mem_append.mp hp).elim (fun h1 => Ne.symm (hf p h1 _ (.head _))) (off3_I h p))
    (fun p hp => (List.mem_append.mp hp).elim (fun h1 => Ne.symm (hf p h1 _ (.tail _ (.head _)))) (off3_C h p))
    (fun p hp => (List.mem_append.mp hp).elim (fun h1 => Ne.symm (hf p h1 _ (.tail _ (.tail _ (.head _))))) (off3_D h p))
/-- a turn's end where the turn has only made things -/
theorem turn_app {s₁ : Shared} {I C D : Addr} {oI oC oD : Obj} {l0 tl tl' : List (Addr × Obj)} {Inv : Value → List (Addr × Obj) → Prop} {y : Value} {h' : Heap} {tk : Nat} (F : Fr h₀ L h' m) (N : News h₀ L h' (tl' ++ ((I, oI) :: (C, oC) :: (D, oD) :: (tl ++ l0))))
    (hf : ∀ p ∈ tl', ∀ q ∈ (I, oI) :: (C, oC) :: (D, oD) :: (tl ++ l0), q.1 ≠ p.1) (h : Off3 I C D (tl ++ l0)) (hI : Inv y (tl' ++ tl)) : TurnEnd h₀ L m s₁ I C D oI oC oD (fun tl => tl ++ l0) Inv y { s₁ with heap := h', toks := tk } :=
  .mk (tl' ++ tl) F N (List.mem_append_right _ (.head _)) (List.mem_append_right _ (.tail _ (.head _))) (List.mem_append_right _ (.tail _ (.tail _ (.head _)))) (fun p hp => by
    rw [List.append_assoc] at hp
    exact (List.mem_append.mp hp).elim (fun h => List.mem_append_left _ h) fun h => List.mem_append_right _ (.tail _ (.tail _ (.tail _ h)))) (by rw [List.append_assoc]; exact off3_app hf h) hI
theorem turn_same {s₁ : Shared} {I C D : Addr} {oI oC oD : Obj} {l0 tl : List (Addr × Obj)} {Inv : Value → List (Addr × Obj) → Prop} {y : Value} {h' : Heap} {tk : Nat} (F : Fr h₀ L h' m) (N : News h₀ L h' ((I, oI) :: (C, oC) :: (D, oD) :: (tl ++ l0))) (h : Off3 I C D (tl ++ l0)) (hI : Inv y tl) :
    TurnEnd h₀ L m s₁ I C D oI oC oD (fun tl => tl ++ l0) Inv y { s₁ with heap := h', toks := tk } :=
  .mk tl F N (.head _) (.tail _ (.head _)) (.tail _ (.tail _ (.head _))) (fun _ h => .tail _ (.tail _ (.tail _ h))) h hI
/-- the same where the turns only make things -/
theorem comp_tupL {elt : Expr} {x : Str} {scope : Scope} {cl : List (Str × Addr)} {ax : Addr} {vs : List Value} {n0 : Nat} {Fin : Shared → List Value → List (Addr × Obj) → Prop} {l0 : List (Addr × Obj)} (Inv : List (Addr × Obj) → Nat → List Value → List (Addr × Obj) → Prop)
    (hh : A.handled = none) (F : Fr h₀ L s.heap m) (N : News h₀ L s.heap l0) (hm : (ax, ({ cls := .type "tuple", data := .seq vs.toArray n0 } : Obj)) ∈ l0) (hsz : vs.length ≤ 1000) (h0 : Inv l0 0 [] [])
    (step : ∀ i ys tl v, vs[i]? = some v → Inv l0 i ys tl → ∀ I oI C oC D m₂ h tk (E' : Value → Shared → Prop), NsObj oC m₂ → m₂ x = some v → Fr h₀ L h m → News h₀ L h ((I, oI) :: (C, oC) :: (D, lst ys) :: (tl ++ l0)) → Off3 I C D (tl ++ l0) →
      wpAny (model prog w) A (eval elt (compEnvC scope cl C env)) (TurnEnd h₀ L m { s with heap := h, toks := tk } I C D oI oC (lst ys) (fun tl => tl ++ l0) (fun z tl' => Inv l0 (i + 1) (ys ++ [z]) tl')) E' { s with heap := h, toks := tk })
    (fin : ∀ g ys tl, Inv l0 vs.length ys tl → Fin { s with heap := g } ys (tl ++ l0)) : SrcT prog w A h₀ L m env elt x scope cl Fin (.ref ax) s :=
  comp_tup (fun tl => tl ++ l0) (Inv l0) [] hh F N (fun _ hp => hp) (fun _ => List.mem_append_right _ hm) hsz h0 step fin
end
end
section
open PySem PySem.W PySem.Calls PyProof.Rows
set_option Elab.async false
set_option maxRecDepth 100000
set_option maxHeartbeats 1000000
section
variable {prog : Program} {w : World} {A : Around} {E : Value → Shared → Prop} {s : Shared} {env : Env} {h₀ : Heap} {x : Str} {body : List Stmt} {Q : Flow → Shared → Prop}
/-- the end of a turn of a loop over a range -/
noncomputable def ForEnd {σ : Type} (h₀ : Heap) (L : Addr) (m₀ : Str → Option Value) (x : Str) (own : List (Addr × Obj)) (Led : σ → List (Addr × Obj)) (P : σ → Prop) (s₁ s₂ : Shared) : Prop :=
  ∃ h' tk m' news' c, s₂ = { s₁ with heap := h', toks := tk } ∧ Fr h₀ L h' m' ∧ News h₀ L h' news' ∧ (∀ p ∈ Led c, p ∈ news') ∧ (∀ p ∈ own, p ∈ news') ∧ (∀ z, z ≠ x → m' z = m₀ z) ∧ P c
noncomputable def ForPost {σ : Type} (h₀ : Heap) (L : Addr) (m₀ : Str → Option Value) (x : Str) (own : List (Addr × Obj)) (Led : σ → List (Addr × Obj)) (P : σ → Prop) (s₁ : Shared) (Q : Flow → Shared → Prop) (f : Flow) (s₂ : Shared) : Prop :=
  match f with
  | .ret v => Q (.ret v) s₂
  | .brk => Q .next s₂
  | _ => ForEnd h₀ L m₀ x own Led P s₁ s₂
theorem ForEnd.mk {σ : Type} {L : Addr} {m₀ : Str → Option Value} {own : List (Addr × Obj)} {Led : σ → List (Addr × Obj)} {P : σ → Prop} {s₁ : Shared} {h' : Heap} {tk : Nat} {v : Value} {news' : List (Addr × Obj)} (c : σ) (F : Fr h₀ L h' (fun y => if y = x then some v else m₀ y)) (N : News h₀ L h' news') (h1 : ∀ p ∈ Led c, p ∈ news') (h2 : ∀ p ∈ own, p ∈ news') (hp : P c) :
    ForEnd h₀ L m₀ x own Led P s₁ { s₁ with heap := h', toks := tk } := ⟨h', tk, _, news', c, rfl, F, N, h1, h2, fun z hz => if_neg hz, hp⟩
theorem for_post {σ : Type} {L : Addr} {m₀ : Str → Option Value} {own : List (Addr × Obj)} {adr : List Addr} {Led : σ → List (Addr × Obj)} {P : List Int → σ → Prop} {pre : List Int} {s₁ : Shared} (hadr : ∀ c, (Led c).map (·.1) = adr) {f : Flow} {s₂ : Shared} (h : ForPost h₀ L m₀ x own Led (P pre) s₁ Q f s₂) :
    InvPostN h₀ L (KstS Led (fun _ => []) (fun _ => True) x [] m₀ P pre) own adr s₁ Q f s₂ := by
  have k : ForEnd h₀ L m₀ x own Led (P pre) s₁ s₂ → InvEndN h₀ L (KstS Led (fun _ => []) (fun _ => True) x [] m₀ P pre) own adr s₁ s₂ := by
    rintro ⟨h', tk, m', news', c, rfl, F, N, h1, h2, h3, h4⟩
    exact InvEndN.intro F N ⟨c, rfl, trivial, fun _ hp => (nomatch hp), fun z hz _ _ => h3 z hz, h4⟩ (hadr c) h1 h2
  cases f with
  | ret v => exact h
  | brk => exact h
  | next => exact k h
  | cont => exact k h
/-- a loop over range(n), by what holds between its turns -/
theorem for_up {σ : Type} {r : Addr} {t₀ u₀ v₀ : Tok} {n : Nat} {m₀ : Str → Option Value} (Led : σ → List (Addr × Obj)) (P : Nat → σ → Prop) (c₀ : σ)
    (hh : A.handled = none) (hr : IsRange s.heap r 0 (n : Int) 1 t₀ u₀ v₀) (hz : n ≤ 100000) (F : Fr h₀ env.locals s.heap m₀) (N : News h₀ env.locals s.heap (Led c₀)) (hadr : ∀ c, (Led c).map (·.1) = (Led c₀).map (·.1)) (hp : P 0 c₀)
    (turn : ∀ c i t h tk own, i < n → P i c → OwnOff own ((Led c₀).map (·.1)) → Fr h₀ env.locals h (fun y => if y = x then some (.int ((i : Nat) : Int) t) else m₀ y) → News h₀ env.locals h (Led c ++ own) →
      wpAny (model prog w) A (execs body env) (fun f s₂ => match f with | .ret v => Q (.ret v) s₂ | .brk => Q .next s₂ | _ => ForEnd h₀ env.locals m₀ x own Led (P (i + 1)) { s with heap := h, toks := tk } s₂) E { s with heap := h, toks := tk })
    (done : ∀ c (u : Option Value) h tk, P n c → Fr h₀ env.locals h (fun y => if y = x then u else m₀ y) → News h₀ env.locals h (Led c) → Q .next { s with heap := h, toks := tk }) :
    wpAny (model prog w) A (pyIter (.ref r)) (fun it s₂ => LoopAtV prog w A h₀ env x body Q E it s₂) E s := by
  have e : Builtin.Range.rangeSize 0 ((n : Nat) : Int) 1 = ((n : Nat) : Int) := by rw [rangeSize_nat]; omega
  have e2 : Builtin.Range.small 0 ((n : Nat) : Int) 1 = true := by
    exact small_one (by omega) (by omega) (by omega) (by omega)
  refine kst_range Led (fun _ => []) (fun _ => True) [] (fun pre c => P pre.length c) c₀ hh hr e2 e F N trivial (fun _ h => (nomatch h)) hp ?_ ?_
  · intro c pre k t u h tk own hk hl ho _ hP F' N'
    refine wpAny_mono (turn c pre.length t h tk own hl hP ho ?_ N') (fun f s₂ q => for_post (P := fun pre c => P pre.length c) (pre := pre ++ [k]) hadr (by rw [List.length_append]; cases f <;> exact q)) fun _ _ q => q
    have hk : k = ((pre.length : Nat) : Int) := by omega
    subst hk
    exact F'
  · intro c u h tk _ hP F' N'
    rw [rangeKs_length] at hP
    refine done c (u x) h tk hP ?_ N'
    have e : (fun y => if y = x then u x else m₀ y) = fun y => if y = x then u y else kstB (fun z => if ([] : List Str).contains z then u z else m₀ z) [] y := by
      funext y
      by_cases hy : y = x
      · rw [if_pos hy, if_pos hy, hy]
      · rw [if_neg hy, if_neg hy]; rfl
    rw [e]; exact F'
/-- a loop over range(n - 1, -1, -1) -/
theorem for_down {σ : Type} {r : Addr} {t₀ u₀ v₀ : Tok} {n : Nat} {m₀ : Str → Option Value} (Led : σ → List (Addr × Obj)) (P : Nat → σ → Prop) (c₀ : σ)
    (hh : A.handled = none) (hr : IsRange s.heap r ((n : Int) - 1) (-1) (-1) t₀ u₀ v₀) (hz : n ≤ 100000) (F : Fr h₀ env.locals s.heap m₀) (N : News h₀ env.locals s.heap (Led c₀)) (hadr : ∀ c, (Led c).map (·.1) = (Led c₀).map (·.1)) (hp : P 0 c₀)
    (turn : ∀ c i t h tk own, i < n → P i c → OwnOff own ((Led c₀).map (·.1)) → Fr h₀ env.locals h (fun y => if y = x then some (.int (((n - 1 - i : Nat) : Nat) : Int) t) else m₀ y) → News h₀ env.locals h (Led c ++ own) →
      wpAny (model prog w) A (execs body env) (fun f s₂ => match f with | .ret v => Q (.ret v) s₂ | .brk => Q .next s₂ | _ => ForEnd h₀ env.locals m₀ x own Led (P (i + 1)) { s with heap := h, toks := tk } s₂) E { s with heap := h, toks := tk })
    (done : ∀ c (u : Option Value) h tk, P n c → Fr h₀ env.locals h (fun y => if y = x then u else m₀ y) → News h₀ env.locals h (Led c) → Q .next { s with heap := h, toks := tk }) :
    wpAny (model prog w) A (pyIter (.ref r)) (fun it s₂ => LoopAtV prog w A h₀ env x body Q E it s₂) E s := by
  have e : Builtin.Range.rangeSize ((n : Int) - 1) (-1) (-1) = ((n : Nat) : Int) := by rw [rangeSize_downNat]; omega
  have e2 : Builtin.Range.small ((n : Int) - 1) (-1) (-1) = true := small_down (by omega) (by omega) (by omega) (by omega)
  refine kst_rangeD Led (fun _ => []) (fun _ => True) [] (fun pre c => P pre.length c) c₀ hh hr e2 e F N trivial (fun _ h => (nomatch h)) hp ?_ ?_
  · intro c pre k t u h tk own hk hl ho _ hP F' N'
    refine wpAny_mono (turn c pre.length t h tk own hl hP ho ?_ N') (fun f s₂ q => for_post (P := fun pre c => P pre.length c) (pre := pre ++ [k]) hadr (by rw [List.length_append]; cases f <;> exact q)) fun _ _ q => q
    have hk : k = ((n - 1 - pre.length : Nat) : Int) := by omega
    subst hk
    exact F'
  · intro c u h tk _ hP F' N'
    have e3 : (downKs ((n : Int) - 1) n).length = n := by simp [downKs]
    rw [e3] at hP
    refine done c (u x) h tk hP ?_ N'
    have e : (fun y => if y = x then u x else m₀ y) = fun y => if y = x then u y else kstB (fun z => if ([] : List Str).contains z then u z else m₀ z) [] y := by
      funext y
      by_cases hy : y = x
      · rw [if_pos hy, if_pos hy, hy]
      · rw [if_neg hy, if_neg hy]; rfl
    rw [e]; exact F'
end
end
section
open PySem PySem.W PySem.Calls PyProof.Rows
set_option Elab.async false
set_option maxRecDepth 100000
set_option maxHeartbeats 1000000
section
variable {prog : Program} {w : World} {A : Around} {E : Value → Shared → Prop} {s : Shared} {env : Env} {h₀ : Heap} {x : Str} {body : List Stmt} {Q : Flow → Shared → Prop}
theorem grow_down {r : Addr} {t₀ u₀ v₀ : Tok} {n : Nat} {m₀ : Str → Option Value} {news : List (Addr × Obj)} (J : Nat → (Str → Option Value) → List (Addr × Obj) → Prop)
    (hh : A.handled = none) (hr : IsRange s.heap r ((n : Int) - 1) (-1) (-1) t₀ u₀ v₀) (hz : n ≤ 100000) (F : Fr h₀ env.locals s.heap m₀) (N : News h₀ env.locals s.heap news) (hj : J 0 m₀ news)
    (turn : ∀ i t m₁ nx h tk own, i < n → TbOff own nx → J i m₁ nx → Fr h₀ env.locals h (fun y => if y = x then some (.int (((n - 1 - i : Nat) : Nat) : Int) t) else m₁ y) → News h₀ env.locals h (nx ++ own) →
      wpAny (model prog w) A (execs body env) (TbPost h₀ env.locals (J (i + 1)) own { s with heap := h, toks := tk } Q) E { s with heap := h, toks := tk })
    (done : ∀ m₁ nx h tk, J n m₁ nx → Fr h₀ env.locals h m₁ → News h₀ env.locals h nx → Q .next { s with heap := h, toks := tk }) :
    wpAny (model prog w) A (pyIter (.ref r)) (fun it s₂ => LoopAtV prog w A h₀ env x body Q E it s₂) E s := by
  have hn : Builtin.Range.rangeSize ((n : Int) - 1) (-1) (-1) = ((n : Nat) : Int) := by rw [rangeSize_downNat]; omega
  have hsmall : Builtin.Range.small ((n : Int) - 1) (-1) (-1) = true := small_down (by omega) (by omega) (by omega) (by omega)
  refine wpAny_pyIter_range hr hsmall ?_
  have W : Walks prog w A s.heap.objs.size [s.heap.objs.size] [s.heap.objs.size] n (fun i v => i < n ∧ ∃ t, v = .int (((n : Int) - 1) + i * (-1)) t)
      (fun i h => IsRangeIter h s.heap.objs.size (((n : Int) - 1) + (i : Nat) * (-1)) ((n : Int) - (i : Nat)) (-1)) := (Walks.range hh _ ((n : Int) - 1) (-1) n).bound
  refine tbr_loop J W (fun _ h => h) (fun _ h => h) ?_ ?_ ?_ ?_ (by show IsRangeIter _ _ _ _ _; rw [hn]; simpa using Heap.get?_push_size _ rfl) (F.push _) (fun p hp => ⟨Heap.get?_push_of_some _ (N p hp).1, (N p hp).2⟩) hj ?_ ?_
  · intro i h hi b hb
    rw [List.mem_singleton.mp hb]
    exact ⟨_, hi⟩
  · intro hm
    exact absurd F.ns.lt ((List.mem_singleton.mp hm) ▸ Nat.lt_irrefl _)
  · intro b hb
    rw [List.mem_singleton.mp hb]
    exact next_is_new F
  · intro p hp hI
    exact absurd (Heap.lt_size (N p hp).1) ((List.mem_singleton.mp hI) ▸ Nat.lt_irrefl _)
  · rintro i v m₁ nx h tk own hi ⟨_, t, rfl⟩ hoff hJ F₁ N₁
    have e1 : ((n : Int) - 1) + (i : Int) * (-1) = ((n - 1 - i : Nat) : Int) := by omega
    rw [e1] at F₁
    exact turn i t m₁ nx h tk own hi hoff hJ F₁ N₁
  · exact done
end
end
section
open PySem PySem.W PyProof.Rows
set_option Elab.async false
set_option maxRecDepth 100000
open Classical in
/-- what of a ledger lies off another -/
noncomputable def fil (l l9 : List (Addr × Obj)) : List (Addr × Obj) := l9.filter fun p => decide (∀ q ∈ l, q.1 ≠ p.1)
section
variable {l l9 tl X imm : List (Addr × Obj)}
theorem fil_mem {e : Addr × Obj} (h : e ∈ l9) (hf : ∀ q ∈ l, q.1 ≠ e.1) : e ∈ fil l l9 := List.mem_filter.mpr ⟨h, decide_eq_true hf⟩
theorem fil_fresh : ∀ p ∈ fil l l9, ∀ q ∈ l, q.1 ≠ p.1 := fun _ hp => of_decide_eq_true (List.mem_filter.mp hp).2
theorem fil_sub : ∀ p ∈ fil l l9, p ∈ l9 := fun _ hp => (List.mem_filter.mp hp).1
theorem off_app {P : Addr × Obj → Prop} (h : ∀ p ∈ tl ++ X, P p) : ∀ p ∈ X, P p := fun p hp => h p (List.mem_append_right _ hp)
end
section
variable {tl X imm : List (Addr × Obj)}
theorem fr_tl {d c f : Nat} {o1 o2 o3 : Obj} (hd : ∀ p ∈ tl ++ X, p.1 ≠ d) (hc : ∀ p ∈ tl ++ X, p.1 ≠ c) (hf : ∀ p ∈ tl ++ X, p.1 ≠ f) (hfr : ∀ p ∈ tl, ∀ q ∈ X, q.1 ≠ p.1) (sub : ∀ q ∈ imm, q ∈ X) :
    ∀ p ∈ tl, ∀ q ∈ (d, o1) :: (c, o2) :: (f, o3) :: imm, q.1 ≠ p.1 := fun p hp q hq => by
  have hx := List.mem_append_left X hp
  rcases List.mem_cons.mp hq with rfl | hq
  · exact Ne.symm (hd p hx)
  · rcases List.mem_cons.mp hq with rfl | hq
    · exact Ne.symm (hc p hx)
    · rcases List.mem_cons.mp hq with rfl | hq
      · exact Ne.symm (hf p hx)
      · exact hfr p hp q (sub q hq)
end
end
section
set_option pp.deepTerms.threshold 6
set_option pp.maxSteps 3000
local macro_rules | `(tactic| walk_at $s:str) => `(tactic| k_extra $(Lean.Syntax.mkStrLit ("my " ++ s.getString)))
local macro_rules | `(tactic| k_all) => `(tactic| k_extra "k_all")
local macro_rules | `(tactic| k_handed) => `(tactic| k_extra "k_handed")
local macro_rules | `(tactic| k_mem) => `(tactic| k_extra "k_mem")
local macro_rules | `(tactic| k_ne) => `(tactic| k_extra "k_ne")
local macro_rules | `(tactic| k_qdec) => `(tactic| k_extra "k_qdec")
local macro_rules | `(tactic| k_room) => `(tactic| k_extra "k_room")
local macro_rules | `(tactic| k_units) => `(tactic| k_extra "k_units")
local macro_rules | `(tactic| ke_room) => `(tactic| k_extra "ke_room")
local macro_rules | `(tactic| kst_all) => `(tactic| k_extra "kst_all")
local macro_rules | `(tactic| kst_mem) => `(tactic| k_extra "kst_mem")
local macro_rules | `(tactic| kst_p) => `(tactic| k_extra "kst_p")
local macro_rules | `(tactic| ktr_member) => `(tactic| k_extra "ktr_member")
local macro_rules | `(tactic| ktr_room) => `(tactic| k_extra "ktr_room")
local macro_rules | `(tactic| ktr_unf) => `(tactic| k_extra "ktr_unf")
local macro_rules | `(tactic| lcg_off) => `(tactic| k_extra "lcg_off")
local macro_rules | `(tactic| tb_rel) => `(tactic| k_extra "tb_rel")
local macro_rules | `(tactic| tb_start) => `(tactic| k_extra "tb_start")
local macro_rules | `(tactic| tbn_below) => `(tactic| k_extra "tbn_below")
local macro_rules | `(tactic| tbn_conj) => `(tactic| k_extra "tbn_conj")
local macro_rules | `(tactic| tbn_lt) => `(tactic| k_extra "tbn_lt")
local macro_rules | `(tactic| units_room) => `(tactic| k_extra "units_room")
local macro_rules | `(tactic| k_lt $h) => `(tactic| (replace $h := allLt_of $h; (try dsimp only [AllLt] at $h:ident); (refine let_goal ?_); intro G9; (repeat (with_reducible obtain ⟨_, $h⟩ := $h)); k_unfold; clear G9))
section
set_option maxHeartbeats 2000000
theorem kw2 : True := by
  k_with_none
  k_with "ke_room" => (first | ((have hcL9ZZ := cLine_is; simp only [units_in1, units_deeper, Around.mark_units, units_caller]; (try dsimp only [arTop]); omega)) | fail)
  k_with "k_units" => (first | (ke_room) | fail)
  k_with "units_room" => (first | (ke_room) | fail)
  k_with "k_room" => (first | (((try simp only [depth_under_make, depth_under_kw, depth_in1, depth_deeper, depth_caller]); (try dsimp only [arTop]); (try simp only [recursionLimit]); omega)) | fail)
  k_with "ktr_room" => (first | (k_room) | fail)
  k_with "ktr_member" => (first | (first | exact allLt_ne (by with_reducible assumption) | exact allLt_ne1 (by with_reducible assumption) | exact allLt_ne2 (by with_reducible assumption) | exact off3_I (by with_reducible assumption) | exact off3_C (by with_reducible assumption) | exact off3_D (by with_reducible assumption) | exact off1_D (by with_reducible assumption)) | fail)
  k_with "k_ne" => (first | ((refine neN ?_; (try dsimp only); first | with_reducible assumption | exact Ne.symm (by with_reducible assumption) | exact Nat.ne_of_lt (by with_reducible assumption) | exact Nat.ne_of_gt (by with_reducible assumption) | omega)) | fail)
  k_with "kst_all" => (first | (first | with_reducible assumption | ktr_member | exact off_app (by first | with_reducible assumption | ktr_member) | exact off_app (off_app (by first | with_reducible assumption | ktr_member)) | exact off_app (off_app (off_app (by first | with_reducible assumption | ktr_member)))) | fail)
  k_with "kst_mem" => (first | ((refine' fil_mem ?aQ9 ?bQ9; (case aQ9 => k_mem); (case bQ9 => k_all))) | fail)
  k_with "kst_p" => (first | ((refine' fil_tree ?aQ10 ?bQ10 ?cQ10; (case aQ10 => with_reducible assumption); (case bQ10 => tb_start); (case cQ10 => exact fr_tl (by with_reducible assumption) (by with_reducible assumption) (by with_reducible assumption) (by with_reducible assumption) (by tb_start)))) | fail)
  k_with "k_all" => (first | (first | exact List.forall_mem_nil _ | (refine' List.forall_mem_cons.mpr ⟨?aQ11, ?bQ11⟩; (case aQ11 => k_ne); (case bQ11 => k_all)) | kst_all) | fail)
  k_with "lcg_off" => (first | (first | exact True.intro | (refine And.intro ⟨?aQ12, ?bQ12, ?cQ12⟩ ?dQ12; (case aQ12 => k_ne); (case bQ12 => k_ne); (case cQ12 => k_ne); (case dQ12 => lcg_off)) | with_reducible assumption | exact off3_of (by first | with_reducible assumption | ktr_member) (by first | with_reducible assumption | ktr_member) (by first | with_reducible assumption | ktr_member)) | fail)
  k_with "tb_rel" => (first | (first | with_reducible assumption | (refine List.mem_cons_of_mem _ ?_; tb_rel) | (refine List.mem_append.mpr (Or.inr ?_); tb_rel) | (refine List.mem_append.mpr (Or.inl ?_); tb_rel)) | fail)
  k_with "tb_start" => (first | ((intro p9ZZ hp9ZZ; tb_rel)) | fail)
  k_with "tbn_lt" => (first | (first | exact Ext.head | (refine' Ext.tail ?aQ15; (case aQ15 => tbn_lt))) | fail)
  k_with "tbn_below" => (first | (first | (refine' Split.cons ?aQ16; (case aQ16 => tbn_below)) | exact Split.base) | fail)
  k_with "tbn_conj" => (first | (first | exact True.intro | (refine' And.intro ?aQ17 ?bQ17; (case aQ17 => first | with_reducible assumption | ktr_member); (case bQ17 => tbn_conj))) | fail)
  k_with "my ite" => ((k_closed; first | (refine' iteBT ?p9Q18 ?_; (case p9Q18 => decide)) | (refine' iteBF ?p9Q18 ?_; (case p9Q18 => decide))))
  k_with "my CompEnd" => ((k_here; k_dflt (refine' comp_end ?FQ19 ?NQ19 ?e1Q19 ?e2Q19 ?e3Q19 ?offQ19 ?_; (case FQ19 => k_asm); (case NQ19 => k_asm); (case e1Q19 => tbn_lt); (case e2Q19 => tbn_lt); (case e3Q19 => tbn_lt); (case offQ19 => lcg_off))))
  k_with "my CompSrc" => ((k_here; k_dflt (refine LCg.CompSrc.range (by rfl) (by k_asm) (by k_asm) (by assumption) (by first | decide | rfl) (by first | rfl | decide) (by first | size_fits | exact Nat.le_of_ble_eq_true rfl) ?_; intro g'ZZ; lcg_lit)))
  k_with "my CompRest" => ((with_unfolding_all first | (refine LCg.CompRest.succ ?_; intro v'ZZ I'ZZ oI'ZZ C'ZZ oC'ZZ D'ZZ m'ZZ h'ZZ tk'ZZ E'ZZ hv'ZZ hC'ZZ hx'ZZ F'ZZ N'ZZ off'ZZ ne'ZZ; (first | lcg_open hv'ZZ | (obtain ⟨t9'ZZ, hv9'ZZ⟩ := hv'ZZ; subst hv9'ZZ)); (try dsimp only [LCg.Off3] at off'ZZ); (refine let_goal ?_); intro G9ZZ; (repeat (with_reducible obtain ⟨⟨_, _, _⟩, off'ZZ⟩ := off'ZZ)); (obtain ⟨_, _, _⟩ := ne'ZZ); k_unfold; clear G9ZZ) | refine LCg.CompRest.zero ?_))
  k_with "my FinE" => (((unfold LCg.FinE); intro D'ZZ h'ZZ tk'ZZ F'ZZ N'ZZ o1'ZZ; (try dsimp only [LCg.Off1] at o1'ZZ); (refine let_goal ?_); intro G9ZZ; (repeat (with_reducible obtain ⟨_, o1'ZZ⟩ := o1'ZZ)); k_unfold; clear G9ZZ; (try simp only [List.nil_append, List.cons_append] at N'ZZ); (try dsimp only)))
  trivial
noncomputable def Cells (cells : List Int) : Prop := (∀ x ∈ cells, 0 ≤ x ∧ x < 10^60) ∧ cells.length ≤ 24
noncomputable def DrawInv (g : Heap) (L : Addr) (mm : Str → Option Value) (s0 : Shared) (d c : Nat) (news : List (Addr × Obj)) (mx : Int) (tk : Tok) (nd : Nat) (cells : List Int) (s : Shared) : Prop :=
  ∃ h tk' vs nc, s = { s0 with heap := h, toks := tk' } ∧ Fr g L h mm ∧ News g L h ((d, listOf #[.ref c, .int mx tk] nd) :: (c, listOf vs.toArray nc) :: news) ∧ IntsAre vs cells ∧ Cells cells
noncomputable def DrawPost (d c : Nat) (many : Int) (news : List (Addr × Obj)) (r : Value) (news' : List (Addr × Obj)) : Prop :=
  ∃ k t cells vs nd nc mx tk, r = .int k t ∧ 0 ≤ k ∧ k < many ∧ news' = (d, listOf #[.ref c, .int mx tk] nd) :: (c, listOf vs.toArray nc) :: news ∧ 
        IntsAre vs cells ∧ Cells cells ∧ (0 ≤ mx ∧ mx < 2147483647)
theorem cells_tail {x : Int} {r : List Int} (h : Cells (x :: r)) : Cells r := ⟨fun y hy => h.1 y (.tail _ hy), by have := h.2; simp only [List.length_cons] at this; omega⟩
theorem cells_div {x k : Int} {r : List Int} (h : Cells (x :: r)) (hk : 0 < k) : Cells (x.fdiv k :: r) := by
  refine ⟨fun y hy => ?_, h.2⟩
  rcases List.mem_cons.mp hy with rfl | hy
  · have hx := h.1 x (.head _)
    rw [Int.fdiv_eq_ediv_of_nonneg _ (by omega)]
    refine ⟨Int.ediv_nonneg hx.1 (by omega), ?_⟩
    have := Int.ediv_le_self k hx.1
    omega
  · exact h.1 y (.tail _ hy)
theorem mix_range (x : Int) : 0 ≤ x.fmod 2147483647 ∧ x.fmod 2147483647 < 2147483647 := ⟨fmod_lo _ (by decide), fmod_hi _ (by decide)⟩

theorem kw3 : True := by
  k_with "my last exec While" => ((refine Stop.out ?_))
  k_with "my call builtin:list.pop" => ((k_dflt (refine' pop0 ?FQ24 ?NQ24 ?UQ24 ?zQ24 ?_; (case FQ24 => k_asm); (case NQ24 => k_asm); (case UQ24 => k_upd); (case zQ24 => omega)); (intro h'ZZ F'ZZ N'ZZ); (try dsimp only [List.nil_append, List.cons_append] at N'ZZ)))
  trivial
theorem draw_spec (prog : Program) (w : World) (d c : Nat) (cells : List Int) (vs : List Value) (nd nc : Nat) (mx : Int) (tk0 : Tok) (many : Int) (tkm : Tok) (news : List (Addr × Obj))
   (hi : IntsAre vs cells) (hc : Cells cells) (hm : 0 ≤ mx ∧ mx < 2147483647) (hmany : 0 < many ∧ many ≤ 1000) (hdc : d ≠ c) (hnd : ∀ p ∈ news, p.1 ≠ d) (hnc : ∀ p ∈ news, p.1 ≠ c) :
   CallsTo prog w (hd.heap_1 w.params) 793 [.ref d, .int many tkm] ((d, listOf #[.ref c, .int mx tk0] nd) :: (c, listOf vs.toArray nc) :: news) 4 200 (DrawPost d c many news) := by
  have hfill9 : PySem.Challenge.rw_on0297_01 = PySem.Challenge.rw_on0297_01 ∧ hd.heap_1 = hd.heap_1 := by
    k_fill
    exact ⟨rfl, rfl⟩
  clear hfill9
  rintro p loose mean mg mb dp un gd ⟨sc, lo, gl, ce, qu, fu, co, _, bu⟩ outer A₀ base h₀ L m s Q E rfl hk B F X N T hd1 hu1 hret
  refine wpAny_call ?_
  k_dflt ktr_enter
  k_steps
  refine Stop.into ?_
  refine while_ind (DrawInv _ _ _ s d c news mx tk0 nd) List.length (x := cells) ⟨_, _, vs, nc, rfl, by assumption, by assumption, hi, hc⟩ (by first | passes_own | with_unfolding_all passes_own) ?_
  rintro cells₁ s₁ ⟨h₁, tk₁, vs₁, nc₁, rfl, F₁, N₁, hi₁, hc₁⟩
  have hl₁ := hi₁.length
  have hl₂ := hc₁.2
  rcases hi₁ with _ | ⟨x₁, t₁, hr₁⟩
  · k_steps
    (rename Fr h₀ L _ m => F9); (rename News h₀ L _ _ => N9)
    have N10 := news2 (q := (d, _)) (r := (c, _)) (news := news) N9 (by k_mem) (by k_mem) (by tb_start)
    exact hret _ _ _ _ F9 N10 ⟨_, _, [], [], _, _, _, _, rfl, fmod_lo _ hmany.1, fmod_hi _ hmany.1, rfl, .nil, hc₁, mix_range _⟩
  · have hx₁ := hc₁.1 x₁ (.head _)
    simp only [List.length_cons] at hl₁ hl₂
    k_steps
    · exfalso
      simp at *
    · (rename Fr _ _ _ _ => F9); (rename News _ _ _ _ => N9)
      exact ⟨_, Nat.lt_succ_self _, _, _, _, _, rfl, F9, news2 (q := (d, _)) (r := (c, _)) (news := news) N9 (by k_mem) (by k_mem) (by tb_start), hr₁, cells_tail hc₁⟩
    · (rename Fr h₀ L _ m => F9); (rename News h₀ L _ _ => N9)
      have N10 := news2 (q := (d, _)) (r := (c, _)) (news := news) N9 (by k_mem) (by k_mem) (by tb_start)
      exact hret _ _ _ _ F9 N10 ⟨_, _, _, _, _, _, _, _, rfl, fmod_lo _ hmany.1, fmod_hi _ hmany.1, rfl, .cons _ _ hr₁, cells_div hc₁ hmany.1, hm⟩
end
section
set_option maxHeartbeats 2000000
theorem kw5 : True := by
  k_with_none
  k_with "ke_room" => (first | ((have hcL9ZZ := cLine_is; simp only [units_in1, units_deeper, Around.mark_units, units_caller]; (try dsimp only [arTop]); omega)) | fail)
  k_with "k_units" => (first | (ke_room) | fail)
  k_with "units_room" => (first | (ke_room) | fail)
  k_with "k_room" => (first | (((try simp only [depth_under_make, depth_under_kw, depth_in1, depth_deeper, depth_caller]); (try dsimp only [arTop]); (try simp only [recursionLimit]); omega)) | fail)
  k_with "ktr_room" => (first | (k_room) | fail)
  k_with "ktr_member" => (first | (first | exact allLt_ne (by with_reducible assumption) | exact allLt_ne1 (by with_reducible assumption) | exact allLt_ne2 (by with_reducible assumption) | exact off3_I (by with_reducible assumption) | exact off3_C (by with_reducible assumption) | exact off3_D (by with_reducible assumption) | exact off1_D (by with_reducible assumption)) | fail)
  k_with "k_ne" => (first | ((refine neN ?_; (try dsimp only); first | with_reducible assumption | exact Ne.symm (by with_reducible assumption) | exact Nat.ne_of_lt (by with_reducible assumption) | exact Nat.ne_of_gt (by with_reducible assumption) | omega)) | fail)
  k_with "kst_all" => (first | (first | with_reducible assumption | ktr_member | exact off_app (by first | with_reducible assumption | ktr_member) | exact off_app (off_app (by first | with_reducible assumption | ktr_member)) | exact off_app (off_app (off_app (by first | with_reducible assumption | ktr_member)))) | fail)
  k_with "kst_mem" => (first | ((refine' fil_mem ?aQ9 ?bQ9; (case aQ9 => k_mem); (case bQ9 => k_all))) | fail)
  k_with "kst_p" => (first | ((refine' fil_tree ?aQ10 ?bQ10 ?cQ10; (case aQ10 => with_reducible assumption); (case bQ10 => tb_start); (case cQ10 => exact fr_tl (by with_reducible assumption) (by with_reducible assumption) (by with_reducible assumption) (by with_reducible assumption) (by tb_start)))) | fail)
  k_with "k_all" => (first | (first | exact List.forall_mem_nil _ | (refine' List.forall_mem_cons.mpr ⟨?aQ11, ?bQ11⟩; (case aQ11 => k_ne); (case bQ11 => k_all)) | kst_all) | fail)
  k_with "lcg_off" => (first | (first | exact True.intro | (refine And.intro ⟨?aQ12, ?bQ12, ?cQ12⟩ ?dQ12; (case aQ12 => k_ne); (case bQ12 => k_ne); (case cQ12 => k_ne); (case dQ12 => lcg_off)) | with_reducible assumption | exact off3_of (by first | with_reducible assumption | ktr_member) (by first | with_reducible assumption | ktr_member) (by first | with_reducible assumption | ktr_member)) | fail)
  k_with "tb_rel" => (first | (first | with_reducible assumption | (refine List.mem_cons_of_mem _ ?_; tb_rel) | (refine List.mem_append.mpr (Or.inr ?_); tb_rel) | (refine List.mem_append.mpr (Or.inl ?_); tb_rel)) | fail)
  k_with "tb_start" => (first | ((intro p9ZZ hp9ZZ; tb_rel)) | fail)
  k_with "tbn_lt" => (first | (first | exact Ext.head | (refine' Ext.tail ?aQ15; (case aQ15 => tbn_lt))) | fail)
  k_with "tbn_below" => (first | (first | (refine' Split.cons ?aQ16; (case aQ16 => tbn_below)) | exact Split.base) | fail)
  k_with "tbn_conj" => (first | (first | exact True.intro | (refine' And.intro ?aQ17 ?bQ17; (case aQ17 => first | with_reducible assumption | ktr_member); (case bQ17 => tbn_conj))) | fail)
  k_with "my ite" => ((k_closed; first | (refine' iteBT ?p9Q18 ?_; (case p9Q18 => decide)) | (refine' iteBF ?p9Q18 ?_; (case p9Q18 => decide))))
  k_with "my CompEnd" => ((k_here; k_dflt (refine' comp_end ?FQ19 ?NQ19 ?e1Q19 ?e2Q19 ?e3Q19 ?offQ19 ?_; (case FQ19 => k_asm); (case NQ19 => k_asm); (case e1Q19 => tbn_lt); (case e2Q19 => tbn_lt); (case e3Q19 => tbn_lt); (case offQ19 => lcg_off))))
  k_with "my CompSrc" => ((k_here; k_dflt (refine LCg.CompSrc.range (by rfl) (by k_asm) (by k_asm) (by assumption) (by first | decide | rfl) (by first | rfl | decide) (by first | size_fits | exact Nat.le_of_ble_eq_true rfl) ?_; intro g'ZZ; lcg_lit)))
  k_with "my CompRest" => ((with_unfolding_all first | (refine LCg.CompRest.succ ?_; intro v'ZZ I'ZZ oI'ZZ C'ZZ oC'ZZ D'ZZ m'ZZ h'ZZ tk'ZZ E'ZZ hv'ZZ hC'ZZ hx'ZZ F'ZZ N'ZZ off'ZZ ne'ZZ; (first | lcg_open hv'ZZ | (obtain ⟨t9'ZZ, hv9'ZZ⟩ := hv'ZZ; subst hv9'ZZ)); (try dsimp only [LCg.Off3] at off'ZZ); (refine let_goal ?_); intro G9ZZ; (repeat (with_reducible obtain ⟨⟨_, _, _⟩, off'ZZ⟩ := off'ZZ)); (obtain ⟨_, _, _⟩ := ne'ZZ); k_unfold; clear G9ZZ) | refine LCg.CompRest.zero ?_))
  k_with "my FinE" => (((unfold LCg.FinE); intro D'ZZ h'ZZ tk'ZZ F'ZZ N'ZZ o1'ZZ; (try dsimp only [LCg.Off1] at o1'ZZ); (refine let_goal ?_); intro G9ZZ; (repeat (with_reducible obtain ⟨_, o1'ZZ⟩ := o1'ZZ)); k_unfold; clear G9ZZ; (try simp only [List.nil_append, List.cons_append] at N'ZZ); (try dsimp only)))
  trivial
noncomputable def Met (ms : List Int) : Prop := (∀ x ∈ ms, 0 ≤ x ∧ x < 3) ∧ ms.Nodup
noncomputable def cntL (ms : List Int) (k : Int) : List Int := if k ∈ ms then ms else ms ++ [k]
theorem met_len {ms : List Int} (h : Met ms) : ms.length ≤ 3 := by
  obtain ⟨h1, h2⟩ := h
  match ms, h1, h2 with
  | [], _, _ => simp
  | [_], _, _ => simp
  | [_, _], _, _ => simp
  | [_, _, _], _, _ => simp
  | a :: b :: c :: d :: r, h1, h2 =>
    exfalso
    have ha := h1 a (by simp)
    have hb := h1 b (by simp)
    have hc := h1 c (by simp)
    have hd := h1 d (by simp)
    simp only [List.nodup_cons, List.mem_cons, not_or] at h2
    omega
theorem met_cnt {ms : List Int} {k : Int} (h : Met ms) (hk : 0 ≤ k ∧ k < 3) : Met (cntL ms k) := by
  unfold cntL
  split
  · exact h
  · rename_i hn
    refine ⟨fun x hx => ?_, ?_⟩
    · rcases List.mem_append.mp hx with hx | hx
      · exact h.1 x hx
      · rw [List.mem_singleton.mp hx]; exact hk
    · rw [List.nodup_append]
      refine ⟨h.2, by simp, fun a ha b hb e => hn ?_⟩
      rw [List.mem_singleton.mp hb] at e
      exact e ▸ ha
theorem met_lay {ms : List Int} (h : Met ms) : PyData.layable0 (.list (ms.map .int)) = true := by
  have hw : ∀ l : List Int, (∀ x ∈ l, 0 ≤ x ∧ x < 3) → PyData.weightAll (l.map .int) ≤ 3 * l.length := by
    intro l
    induction l with
    | nil => intro _; simp [PyData.weightAll]
    | cons x l ih =>
      intro hl
      have hx := hl x (.head _)
      have := ih fun y hy => hl y (.tail _ hy)
      have hx' : x = 0 ∨ x = 1 ∨ x = 2 := by omega
      simp only [List.map_cons, PyData.weightAll, List.length_cons]
      have hw : PyData.weight (.int x) ≤ 2 := by rcases hx' with rfl | rfl | rfl <;> decide +kernel
      omega
  have h3 := met_len h
  have h4 := hw ms h.1
  unfold PyData.layable0
  have h5 : PyData.weight (.list (ms.map .int)) ≤ 2 ^ 20 := by
    rw [PyData.weight]
    exact Nat.le_trans h4 (Nat.le_trans (Nat.mul_le_mul_left 3 h3) (by decide))
  have h6 : PyData.depth (.list (ms.map .int)) ≤ 64 := by
    rw [PyData.depth, ke_depthAll]
    decide
  have h7 : PyData.canLay0 (.list (ms.map .int)) = true := by
    rw [PyData.canLay0, ke_canLayAll0]
  rw [h7, decide_eq_true h5, decide_eq_true h6]
  rfl
theorem cnt_mem (ms : List Int) (k : Int) : k ∈ cntL ms k := by
  unfold cntL
  split <;> simp_all
noncomputable def CountPost (mt : Nat) (ms : List Int) (k : Int) (news : List (Addr × Obj)) (r : Value) (news' : List (Addr × Obj)) : Prop :=
  ∃ t vs n, r = .int (((cntL ms k).idxOf k : Nat) : Int) t ∧ news' = (mt, listOf vs.toArray n) :: news ∧ IntsAre vs (cntL ms k)
theorem any_mem {ms : List Int} {k : Int} : (ms.any fun x => x == k) = true ↔ k ∈ ms := by simp
theorem kw6 : True := by
  k_with "my call builtin:list.index" => ((refine Stop.out ?_))
  trivial
theorem count_spec (prog : Program) (w : World) (mt : Nat) (ms : List Int) (vs : List Value) (n0 : Nat) (k0 : Int) (tk0 : Tok) (news : List (Addr × Obj))
   (hi : IntsAre vs ms) (hms : Met ms) (hk0 : 0 ≤ k0 ∧ k0 < 3) (hnd : ∀ p ∈ news, p.1 ≠ mt) :
   CallsTo prog w (hd.heap_1 w.params) 824 [.ref mt, .int k0 tk0] ((mt, listOf vs.toArray n0) :: news) 4 200 (CountPost mt ms k0 news) := by
  have hfill9 : PySem.Challenge.rw_on0297_01 = PySem.Challenge.rw_on0297_01 ∧ hd.heap_1 = hd.heap_1 := by
    k_fill
    exact ⟨rfl, rfl⟩
  clear hfill9
  rintro p loose mean mg mb dp un gd ⟨sc, lo, gl, ce, qu, fu, co, _, bu⟩ outer A₀ base h₀ L m s Q E rfl hk B F X N T hd1 hu1 hret
  have hl := met_len hms
  have hlc := met_lay (met_cnt hms hk0)
  have hmc := cnt_mem ms k0
  unfold CountPost at hret
  refine wpAny_call ?_
  k_dflt ktr_enter
  k_steps
  · refine Stop.into ?_
    rename ((ms.any fun x => x == k0) = true) => e9
    have e8 : cntL ms k0 = ms := by unfold cntL; rw [if_pos (any_mem.mp e9)]
    rw [e8] at hlc hmc hret
    refine index_list_ints (by is_list) hi hlc hmc ?_
    k_steps
    (rename Fr h₀ L _ m => F9); (rename News h₀ L _ _ => N9)
    exact hret _ _ _ _ F9 N9 ⟨_, _, _, rfl, rfl, hi⟩
  · refine Stop.into ?_
    rename ((ms.any fun x => x == k0) = false) => e9
    have e8 : cntL ms k0 = ms ++ [k0] := by unfold cntL; rw [if_neg (fun h => by rw [any_mem.mpr h] at e9; cases e9)]
    rw [e8] at hlc hmc hret
    (rename News _ _ _ _ => N8)
    rw [List.push_toArray] at N8
    have hi8 : IntsAre (vs ++ [.int k0 tk0]) (ms ++ [k0]) := IntsAre.append hi (.cons _ _ .nil)
    refine index_list_ints (ns := ms ++ [k0]) (by is_list) hi8 hlc hmc ?_
    k_steps
    (rename Fr h₀ L _ m => F9); (rename News h₀ L _ _ => N9)
    exact hret _ _ _ _ F9 N9 ⟨_, _, _, rfl, rfl, hi8⟩
end
section
set_option maxHeartbeats 2000000
theorem kw8 : True := by
  k_with_none
  k_with "ke_room" => (first | ((have hcL9ZZ := cLine_is; simp only [units_in1, units_deeper, Around.mark_units, units_caller]; (try dsimp only [arTop]); omega)) | fail)
  k_with "k_units" => (first | (ke_room) | fail)
  k_with "units_room" => (first | (ke_room) | fail)
  k_with "k_room" => (first | (((try simp only [depth_under_make, depth_under_kw, depth_in1, depth_deeper, depth_caller]); (try dsimp only [arTop]); (try simp only [recursionLimit]); omega)) | fail)
  k_with "ktr_room" => (first | (k_room) | fail)
  k_with "ktr_member" => (first | (first | exact allLt_ne (by with_reducible assumption) | exact allLt_ne1 (by with_reducible assumption) | exact allLt_ne2 (by with_reducible assumption) | exact off3_I (by with_reducible assumption) | exact off3_C (by with_reducible assumption) | exact off3_D (by with_reducible assumption) | exact off1_D (by with_reducible assumption)) | fail)
  k_with "k_ne" => (first | ((refine neN ?_; (try dsimp only); first | with_reducible assumption | exact Ne.symm (by with_reducible assumption) | exact Nat.ne_of_lt (by with_reducible assumption) | exact Nat.ne_of_gt (by with_reducible assumption) | omega)) | fail)
  k_with "kst_all" => (first | (first | with_reducible assumption | ktr_member | exact off_app (by first | with_reducible assumption | ktr_member) | exact off_app (off_app (by first | with_reducible assumption | ktr_member)) | exact off_app (off_app (off_app (by first | with_reducible assumption | ktr_member)))) | fail)
  k_with "kst_mem" => (first | ((refine' fil_mem ?aQ9 ?bQ9; (case aQ9 => k_mem); (case bQ9 => k_all))) | fail)
  k_with "kst_p" => (first | ((refine' fil_tree ?aQ10 ?bQ10 ?cQ10; (case aQ10 => with_reducible assumption); (case bQ10 => tb_start); (case cQ10 => exact fr_tl (by with_reducible assumption) (by with_reducible assumption) (by with_reducible assumption) (by with_reducible assumption) (by tb_start)))) | fail)
  k_with "k_all" => (first | (first | exact List.forall_mem_nil _ | (refine' List.forall_mem_cons.mpr ⟨?aQ11, ?bQ11⟩; (case aQ11 => k_ne); (case bQ11 => k_all)) | kst_all) | fail)
  k_with "lcg_off" => (first | (first | exact True.intro | (refine And.intro ⟨?aQ12, ?bQ12, ?cQ12⟩ ?dQ12; (case aQ12 => k_ne); (case bQ12 => k_ne); (case cQ12 => k_ne); (case dQ12 => lcg_off)) | with_reducible assumption | exact off3_of (by first | with_reducible assumption | ktr_member) (by first | with_reducible assumption | ktr_member) (by first | with_reducible assumption | ktr_member)) | fail)
  k_with "tb_rel" => (first | (first | with_reducible assumption | (refine List.mem_cons_of_mem _ ?_; tb_rel) | (refine List.mem_append.mpr (Or.inr ?_); tb_rel) | (refine List.mem_append.mpr (Or.inl ?_); tb_rel)) | fail)
  k_with "tb_start" => (first | ((intro p9ZZ hp9ZZ; tb_rel)) | fail)
  k_with "tbn_lt" => (first | (first | exact Ext.head | (refine' Ext.tail ?aQ15; (case aQ15 => tbn_lt))) | fail)
  k_with "tbn_below" => (first | (first | (refine' Split.cons ?aQ16; (case aQ16 => tbn_below)) | exact Split.base) | fail)
  k_with "tbn_conj" => (first | (first | exact True.intro | (refine' And.intro ?aQ17 ?bQ17; (case aQ17 => first | with_reducible assumption | ktr_member); (case bQ17 => tbn_conj))) | fail)
  k_with "my ite" => ((k_closed; first | (refine' iteBT ?p9Q18 ?_; (case p9Q18 => decide)) | (refine' iteBF ?p9Q18 ?_; (case p9Q18 => decide))))
  k_with "my CompEnd" => ((k_here; k_dflt (refine' comp_end ?FQ19 ?NQ19 ?e1Q19 ?e2Q19 ?e3Q19 ?offQ19 ?_; (case FQ19 => k_asm); (case NQ19 => k_asm); (case e1Q19 => tbn_lt); (case e2Q19 => tbn_lt); (case e3Q19 => tbn_lt); (case offQ19 => lcg_off))))
  k_with "my CompSrc" => ((k_here; k_dflt (refine LCg.CompSrc.range (by rfl) (by k_asm) (by k_asm) (by assumption) (by first | decide | rfl) (by first | rfl | decide) (by first | size_fits | exact Nat.le_of_ble_eq_true rfl) ?_; intro g'ZZ; lcg_lit)))
  k_with "my CompRest" => ((with_unfolding_all first | (refine LCg.CompRest.succ ?_; intro v'ZZ I'ZZ oI'ZZ C'ZZ oC'ZZ D'ZZ m'ZZ h'ZZ tk'ZZ E'ZZ hv'ZZ hC'ZZ hx'ZZ F'ZZ N'ZZ off'ZZ ne'ZZ; (first | lcg_open hv'ZZ | (obtain ⟨t9'ZZ, hv9'ZZ⟩ := hv'ZZ; subst hv9'ZZ)); (try dsimp only [LCg.Off3] at off'ZZ); (refine let_goal ?_); intro G9ZZ; (repeat (with_reducible obtain ⟨⟨_, _, _⟩, off'ZZ⟩ := off'ZZ)); (obtain ⟨_, _, _⟩ := ne'ZZ); k_unfold; clear G9ZZ) | refine LCg.CompRest.zero ?_))
  k_with "my FinE" => (((unfold LCg.FinE); intro D'ZZ h'ZZ tk'ZZ F'ZZ N'ZZ o1'ZZ; (try dsimp only [LCg.Off1] at o1'ZZ); (refine let_goal ?_); intro G9ZZ; (repeat (with_reducible obtain ⟨_, o1'ZZ⟩ := o1'ZZ)); k_unfold; clear G9ZZ; (try simp only [List.nil_append, List.cons_append] at N'ZZ); (try dsimp only)))
  trivial
noncomputable abbrev tup (vs : List Value) (n : Nat) : Obj := { cls := .type "tuple", data := .seq vs.toArray n }
/-- a law's tree: its head -/
inductive Hd where
  | s (w : Str) (k : Int)
  | lam (l : Int) (ps : List Int) (r : Int)
  | fix (k : Int)
inductive T where
  | node (h : Hd) (ts : List T)
noncomputable def Hd.word : Hd → Str
  | .s w _ => w
  | .lam .. => "lambda"
  | .fix _ => "fix"
mutual
noncomputable def T.depth : T → Nat
  | .node _ ts => T.depths ts + 1
noncomputable def T.depths : List T → Nat
  | [] => 0
  | t :: ts => max t.depth (T.depths ts)
end
mutual
noncomputable def T.size : T → Nat
  | .node _ ts => T.sizes ts + 1
noncomputable def T.sizes : List T → Nat
  | [] => 0
  | t :: ts => t.size + T.sizes ts
end
noncomputable def in3 (k : Int) : Prop := 0 ≤ k ∧ k < 3
/-- which heads there are, with how many parts; c: the most -/
noncomputable def wfh (c : Nat) : Hd → Nat → Prop
  | .s w k, n => in3 k ∧ (((w = "const" ∨ w = "local" ∨ w = "global") ∧ n = 0) ∨ ((w = "setlocal" ∨ w = "setglobal") ∧ n = 1) ∨ (w = "if" ∧ n = 3) ∨ (w = "call" ∧ 1 ≤ n ∧ n ≤ c) ∨ ((w = "seq" ∨ w = "prim") ∧ n ≤ c))
  | .lam l ps r, n => in3 l ∧ (∀ x ∈ ps, in3 x) ∧ ps.length ≤ c ∧ ((-1 ≤ r ∨ c = 3) ∧ -4 ≤ r ∧ r < 3) ∧ n = 1
  | .fix k, n => in3 k ∧ n = 2
mutual
noncomputable def T.wf (c : Nat) : T → Prop
  | .node h ts => wfh c h ts.length ∧ T.wfs c ts
noncomputable def T.wfs (c : Nat) : List T → Prop
  | [] => True
  | t :: ts => t.wf c ∧ T.wfs c ts
end
theorem wfh_up {h : Hd} {n : Nat} (x : wfh 2 h n) : wfh 3 h n := by
  cases h with
  | s w k =>
    obtain ⟨h1, h2⟩ := x
    refine ⟨h1, ?_⟩
    rcases h2 with h2 | h2 | h2 | ⟨a, b, c⟩ | ⟨a, b⟩
    · exact .inl h2
    · exact .inr (.inl h2)
    · exact .inr (.inr (.inl h2))
    · exact .inr (.inr (.inr (.inl ⟨a, b, Nat.le_succ_of_le c⟩)))
    · exact .inr (.inr (.inr (.inr ⟨a, Nat.le_succ_of_le b⟩)))
  | lam l ps r => exact ⟨x.1, x.2.1, Nat.le_succ_of_le x.2.2.1, ⟨.inr rfl, x.2.2.2.1.2⟩, x.2.2.2.2⟩
  | fix k => exact x
mutual
theorem T.wf_up : ∀ t : T, t.wf 2 → t.wf 3
  | .node h ts, x => by
    unfold T.wf at x ⊢
    exact ⟨wfh_up x.1, T.wfs_up ts x.2⟩
theorem T.wfs_up : ∀ ts : List T, T.wfs 2 ts → T.wfs 3 ts
  | [], _ => by unfold T.wfs; trivial
  | t :: ts, x => by
    unfold T.wfs at x ⊢
    exact ⟨T.wf_up t x.1, T.wfs_up ts x.2⟩
end
noncomputable def WhatIn (news : List (Addr × Obj)) : Hd → Value → Prop
  | .s _ k, v => ∃ t, v = .int k t
  | .lam l ps r, v => ∃ q u us t2 t3 n3 n4, v = .ref q ∧ (q, tup [.int l t2, .ref u, .int r t3] n3) ∈ news ∧ (u, tup us n4) ∈ news ∧ IntsAre us ps
  | .fix k, v => ∃ q t n, v = .ref q ∧ (q, tup [.int k t] n) ∈ news
mutual
/-- the ledger bears the tree t at v -/
noncomputable def TreeIn (news : List (Addr × Obj)) : T → Value → Prop
  | .node h ts, v => ∃ a p x t1 n1 n2 vs, v = .ref a ∧ (a, tup [.str h.word t1, x, .ref p] n1) ∈ news ∧ WhatIn news h x ∧ (p, tup vs n2) ∈ news ∧ TreesIn news ts vs
noncomputable def TreesIn (news : List (Addr × Obj)) : List T → List Value → Prop
  | [], vs => vs = []
  | t :: ts, vs => ∃ v r, vs = v :: r ∧ TreeIn news t v ∧ TreesIn news ts r
end
theorem TreeIn.node {news : List (Addr × Obj)} {h : Hd} {ts : List T} {a p n1 n2 : Nat} {x : Value} {t1 : Tok} {vs : List Value} (h1 : (a, tup [.str h.word t1, x, .ref p] n1) ∈ news) (h2 : WhatIn news h x) (h3 : (p, tup vs n2) ∈ news) (h4 : TreesIn news ts vs) : TreeIn news (.node h ts) (.ref a) := by
  unfold TreeIn
  exact ⟨a, p, x, t1, n1, n2, vs, rfl, h1, h2, h3, h4⟩
theorem TreeIn.inv {news : List (Addr × Obj)} {h : Hd} {ts : List T} {v : Value} (x : TreeIn news (.node h ts) v) : ∃ a p x t1 n1 n2 vs, v = .ref a ∧ (a, tup [.str h.word t1, x, .ref p] n1) ∈ news ∧ WhatIn news h x ∧ (p, tup vs n2) ∈ news ∧ TreesIn news ts vs := by
  unfold TreeIn at x
  exact x
theorem TreesIn.nil {news : List (Addr × Obj)} : TreesIn news [] [] := by unfold TreesIn; rfl
theorem TreesIn.cons {news : List (Addr × Obj)} {t : T} {ts : List T} {v : Value} {vs : List Value} (h : TreeIn news t v) (k : TreesIn news ts vs) : TreesIn news (t :: ts) (v :: vs) := by unfold TreesIn; exact ⟨v, vs, rfl, h, k⟩
theorem TreesIn.inv {news : List (Addr × Obj)} {t : T} {ts : List T} {vs : List Value} (h : TreesIn news (t :: ts) vs) : ∃ v r, vs = v :: r ∧ TreeIn news t v ∧ TreesIn news ts r := by unfold TreesIn at h; exact h
theorem TreesIn.inv0 {news : List (Addr × Obj)} {vs : List Value} (h : TreesIn news [] vs) : vs = [] := by unfold TreesIn at h; exact h
/-- all tuples of a ledger stand in another -/
noncomputable def Tups (l l' : List (Addr × Obj)) : Prop := ∀ (a : Nat) (vs : List Value) (n : Nat), (a, tup vs n) ∈ l → (a, tup vs n) ∈ l'
theorem WhatIn.only {news news' : List (Addr × Obj)} (hs : Tups news news') {h : Hd} {x : Value} (k : WhatIn news h x) : WhatIn news' h x := by
  cases h with
  | s w k' => exact k
  | lam l ps r =>
    obtain ⟨q, u, us, t2, t3, n3, n4, e, h1, h2, h3⟩ := k
    exact ⟨q, u, us, t2, t3, n3, n4, e, hs _ _ _ h1, hs _ _ _ h2, h3⟩
  | fix k' =>
    obtain ⟨q, t, n, e, h1⟩ := k
    exact ⟨q, t, n, e, hs _ _ _ h1⟩
mutual
theorem TreeIn.only {news news' : List (Addr × Obj)} (hs : Tups news news') : ∀ (t : T) (v : Value), TreeIn news t v → TreeIn news' t v
  | .node h ts, v, x => by
    obtain ⟨a, p, x, t1, n1, n2, vs, rfl, h1, h2, h3, h4⟩ := x.inv
    exact .node (hs _ _ _ h1) (h2.only hs) (hs _ _ _ h3) (TreesIn.only hs ts vs h4)
theorem TreesIn.only {news news' : List (Addr × Obj)} (hs : Tups news news') : ∀ (ts : List T) (vs : List Value), TreesIn news ts vs → TreesIn news' ts vs
  | [], vs, x => by rw [x.inv0]; exact .nil
  | t :: ts, vs, x => by
    obtain ⟨v, r, rfl, h1, h2⟩ := x.inv
    exact .cons (TreeIn.only hs t v h1) (TreesIn.only hs ts r h2)
end
theorem Tups.of {l l' : List (Addr × Obj)} (hs : ∀ p ∈ l, p ∈ l') : Tups l l' := fun _ _ _ h => hs _ h
theorem WhatIn.mono {news news' : List (Addr × Obj)} (hs : ∀ p ∈ news, p ∈ news') {h : Hd} {x : Value} (k : WhatIn news h x) : WhatIn news' h x := k.only (.of hs)
theorem TreeIn.mono {news news' : List (Addr × Obj)} (hs : ∀ p ∈ news, p ∈ news') (t : T) (v : Value) (x : TreeIn news t v) : TreeIn news' t v := .only (.of hs) t v x
theorem TreesIn.mono {news news' : List (Addr × Obj)} (hs : ∀ p ∈ news, p ∈ news') (ts : List T) (vs : List Value) (x : TreesIn news ts vs) : TreesIn news' ts vs := .only (.of hs) ts vs x
theorem TreesIn.snoc {news : List (Addr × Obj)} {t : T} {v : Value} : ∀ {ts : List T} {vs : List Value}, TreesIn news ts vs → TreeIn news t v → TreesIn news (ts ++ [t]) (vs ++ [v])
  | [], vs, x, k => by rw [x.inv0]; exact .cons k .nil
  | _ :: ts, vs, x, k => by
    obtain ⟨v, r, rfl, h1, h2⟩ := x.inv
    exact .cons h1 (h2.snoc k)
theorem TreesIn.length {news : List (Addr × Obj)} : ∀ {ts : List T} {vs : List Value}, TreesIn news ts vs → vs.length = ts.length
  | [], vs, x => by rw [x.inv0]; rfl
  | _ :: ts, vs, x => by
    obtain ⟨v, r, rfl, h1, h2⟩ := x.inv
    rw [List.length_cons, List.length_cons, h2.length]
/-- what the tree that fuel x made, leaving y, is known to be -/
structure TF (x y : Int) (t : T) : Prop where
  wf : t.wf 2
  depth : t.depth ≤ 2 * max x.toNat 1
  size : (t.size : Int) ≤ 2 * (x - y)
  y1 : x ≤ 1 → y = x - 1
  y2 : 1 ≤ x → -2 * x ≤ y
  y3 : y ≤ x - 1
/-- the same of trees made one after another -/
structure TFs (x y : Int) (ts : List T) : Prop where
  wf : T.wfs 2 ts
  depth : T.depths ts ≤ 2 * max x.toNat 1
  size : (T.sizes ts : Int) ≤ 2 * (x - y)
  y2 : -2 * x - ts.length + 1 ≤ y
  y3 : y ≤ x - ts.length
theorem wfs_snoc {c : Nat} {t : T} : ∀ {ts : List T}, T.wfs c ts → t.wf c → T.wfs c (ts ++ [t])
  | [], _, h => by unfold T.wfs; exact ⟨h, by unfold T.wfs; trivial⟩
  | _ :: ts, k, h => by unfold T.wfs at k; show T.wfs c (_ :: (ts ++ [t])); unfold T.wfs; exact ⟨k.1, wfs_snoc k.2 h⟩
theorem depths_snoc {t : T} : ∀ {ts : List T}, T.depths (ts ++ [t]) = max (T.depths ts) t.depth
  | [] => by simp [T.depths]
  | _ :: ts => by show T.depths (_ :: (ts ++ [t])) = _; rw [T.depths, depths_snoc, T.depths, Nat.max_assoc]
theorem sizes_snoc {t : T} : ∀ {ts : List T}, T.sizes (ts ++ [t]) = T.sizes ts + t.size
  | [] => by simp [T.sizes]
  | _ :: ts => by show T.sizes (_ :: (ts ++ [t])) = _; rw [T.sizes, sizes_snoc, T.sizes, Nat.add_assoc]
theorem TF.toNat_le {x y : Int} {t : T} (h : TF x y t) : y.toNat ≤ x.toNat := by have := h.y3; clear h; omega
theorem TFs.toNat_le {x y : Int} {ts : List T} (h : TFs x y ts) : y.toNat ≤ x.toNat := by have := h.y3; clear h; omega
theorem TFs.nil {x : Int} (h : 0 < x) : TFs x x [] := ⟨by unfold T.wfs; trivial, by rw [T.depths]; exact Nat.zero_le _, by rw [T.sizes]; omega, by rw [List.length_nil]; omega, by rw [List.length_nil]; omega⟩
theorem TFs.snoc {x y y' : Int} {ts : List T} {t : T} (h : 0 < x) (a : TFs x y ts) (b : TF y y' t) : TFs x y' (ts ++ [t]) := by
  obtain ⟨a1, a2, a3, a4, a5⟩ := a
  obtain ⟨b1, b2, b3, b4, b5, b6⟩ := b
  have hl : (ts ++ [t]).length = ts.length + 1 := by rw [List.length_append]; rfl
  refine ⟨wfs_snoc a1 b1, ?_, ?_, ?_, ?_⟩
  · rw [depths_snoc]
    clear b1 a1 a3 a4 b3 b4 b5 b6 hl
    omega
  · rw [sizes_snoc]
    clear b1 a1 a2 a4 b2 b4 b5 b6 hl
    omega
  · rw [hl]
    clear b1 a1 a2 a3 b2 b3
    omega
  · rw [hl]
    clear b1 a1 a2 a3 b2 b3 b4 b5
    omega
theorem TF.leaf {x k : Int} {w : Str} (hw : w = "const" ∨ w = "local" ∨ w = "global") (hk : 0 ≤ k ∧ k < 3) : TF x (x - 1) (.node (.s w k) []) := by
  refine ⟨?_, ?_, ?_, fun _ => rfl, fun h => ?_, Int.le_refl _⟩
  · unfold T.wf
    exact ⟨⟨hk, .inl ⟨hw, rfl⟩⟩, by unfold T.wfs; trivial⟩
  · rw [T.depth, T.depths]; omega
  · rw [T.size, T.sizes]; omega
  · omega
theorem TF.node {x y : Int} {h : Hd} {ts : List T} (hx : 0 < x - 1) (a : TFs (x - 1) y ts) (hw : wfh 2 h ts.length) (hl : ts.length ≤ 3) : TF x y (.node h ts) := by
  obtain ⟨a1, a2, a3, a4, a5⟩ := a
  refine ⟨?_, ?_, ?_, ?_, ?_, ?_⟩
  · unfold T.wf; exact ⟨hw, a1⟩
  · rw [T.depth]; clear a1 a3 a4 a5 hw; omega
  · rw [T.size]; clear a1 a2 a4 a5 hw; omega
  · clear a1 a2 a3 a4 a5 hw; omega
  · clear a1 a2 a3 a5 hw; omega
  · clear a1 a2 a3 a4 hw; omega
theorem TF.fix {x y k l : Int} {t1 t2 : T} (hx : 0 < x - 1) (a : TFs (x - 1) y [t1, t2]) (hk : 0 ≤ k ∧ k < 3) (hl : 0 ≤ l ∧ l < 3) : TF x y (.node (.fix k) [.node (.lam l [] (-1)) [t1], t2]) := by
  obtain ⟨a1, a2, a3, a4, a5⟩ := a
  simp only [T.wfs, T.depths, T.sizes, List.length_cons, List.length_nil] at a1 a2 a3 a4 a5
  refine ⟨?_, ?_, ?_, ?_, ?_, ?_⟩
  · simp only [T.wf, T.wfs, wfh, List.length_cons, List.length_nil]
    exact ⟨⟨hk, trivial⟩, ⟨⟨hl, fun _ h => (nomatch h), Nat.zero_le _, ⟨.inl (by decide), by decide, by decide⟩, trivial⟩, a1.1, trivial⟩, a1.2.1, trivial⟩
  · rw [T.depth, T.depths, T.depths, T.depths, T.depth, T.depths, T.depths]; clear a1 a3 a4 a5; omega
  · rw [T.size, T.sizes, T.sizes, T.sizes, T.size, T.sizes, T.sizes]; clear a1 a2 a4 a5; omega
  · clear a1 a2 a3 a4 a5; omega
  · clear a1 a2 a3 a5; omega
  · clear a1 a2 a3 a4; omega

section
variable {l l9 tl X imm : List (Addr × Obj)}
theorem fil_trees {r : List Value} {t : List T} (ht : TreesIn tl t r) (sub : ∀ p ∈ tl, p ∈ l9) (fr : ∀ p ∈ tl, ∀ q ∈ l, q.1 ≠ p.1) : TreesIn (fil l l9) t r := TreesIn.mono (fun p hp => fil_mem (sub p hp) (fr p hp)) _ _ ht
end
noncomputable def nthV : List Value → Nat → Option Value
  | [], _ => none
  | v :: _, 0 => some v
  | _ :: r, k + 1 => nthV r k
theorem nthV_eq : ∀ (l : List Value) (k : Nat), nthV l k = l[k]?
  | [], _ => by simp [nthV]
  | _ :: _, 0 => by simp [nthV]
  | _ :: r, k + 1 => by simp [nthV, nthV_eq r k]
section
variable {prog : Program} {w : World} {A : Around} {h₀ : Heap} {L : Addr} {s : Shared} {Q : Value → Shared → Prop} {E : Value → Shared → Prop} {news : List (Addr × Obj)}
theorem item_lst {value slice : PySem.Expr} {l : Addr} {its : Array Value} {n : Nat} {k : Int} {u : Tok} {v : Value} (N : News h₀ L s.heap news) (hm : (l, listOf its n) ∈ news) (h0 : 0 ≤ k) (hhi : k < 2 ^ 63) (hx : nthV its.toList k.toNat = some v) (h : Q v s)
    (hs : subscripted slice false (.ref l) (.int k u) = operate [.ref l, .int k u] (getItem (.ref l) (.int k u)) := by with_unfolding_all rfl) : wpAny (model prog w) A (subscriptTail value slice (.ref l) (.int k u)) Q E s :=
  have hl := PySem.IsL.isList (N.get hm)
  tail_any hl.typeIs slot_list_getitem.lookup (wpAny_getItem_list hl h0 hhi (by rw [nthV_eq] at hx; simpa using hx) h) hs
theorem item_tupl {value slice : PySem.Expr} {l : Addr} {vs : List Value} {n : Nat} {k : Int} {u : Tok} {v : Value} (N : News h₀ L s.heap news) (hm : (l, tup vs n) ∈ news) (h0 : 0 ≤ k) (hhi : k < 2 ^ 63) (hx' : nthV vs k.toNat = some v) (h : Q v s)
    (hs : subscripted slice false (.ref l) (.int k u) = operate [.ref l, .int k u] (getItem (.ref l) (.int k u)) := by with_unfolding_all rfl) : wpAny (model prog w) A (subscriptTail value slice (.ref l) (.int k u)) Q E s := by
  have hx : vs[k.toNat]? = some v := by rw [nthV_eq] at hx'; exact hx'
  have hlt : k.toNat < vs.length := (List.getElem?_eq_some_iff.mp hx).1
  refine item_tupleT (j := k.toNat) (News.isTup N hm) (by omega) hhi ?_ hx h hs
  unfold seqIndex?
  have a1 : ¬ k < 0 := by omega
  have a2 : k < (vs.length : Int) := by omega
  simp [a1, a2, h0]
theorem dict_int {l : Addr} {o : Obj} {kvs : List (Int × Value)} {D : List (PyData × PyData)} {k : Int} {u : Tok} {j : Int} (N : News h₀ L s.heap news) (hm : (l, o) ∈ news) (lo : (l == sysModules) = false) (hd : o.IsDictOf (intKind prog w) kvs) (hf : PyProof.V.FlatPairs PyData.int kvs D)
    (hl : PySem.Spec.lookup (.int k) D = some (.int j)) (h : ∀ t, Q (.int j t) { s with toks := s.toks + 1 }) : wpAny (model prog w) A (getItem (.ref l) (.int k u)) Q E s :=
  getItem_tab (knd := intKind prog w) (enc := PyData.int) PyProof.V.same_int (intKind_is _ _ _ _) (TabAt.ofNews N hm lo hd hf) hl fun v hv => by
    obtain ⟨t, rfl⟩ := PyProof.V.Flat.int_inv hv
    exact h t
theorem dict_strv {l : Addr} {o : Obj} {kvs : List (Int × Value)} {D : List (PyData × PyData)} {k : Int} {u : Tok} {j : Str} (N : News h₀ L s.heap news) (hm : (l, o) ∈ news) (lo : (l == sysModules) = false) (hd : o.IsDictOf (intKind prog w) kvs) (hf : PyProof.V.FlatPairs PyData.int kvs D)
    (hl : PySem.Spec.lookup (.int k) D = some (.str j)) (h : ∀ t, Q (.str j t) { s with toks := s.toks + 1 }) : wpAny (model prog w) A (getItem (.ref l) (.int k u)) Q E s :=
  getItem_tab (knd := intKind prog w) (enc := PyData.int) PyProof.V.same_int (intKind_is _ _ _ _) (TabAt.ofNews N hm lo hd hf) hl fun v hv => by
    obtain ⟨t, rfl⟩ := PyProof.V.Flat.str_inv hv
    exact h t
end
section
variable {prog : Program} {w : World} {p : Program} {loose : List Str} {mean : ExcName → Option Value} {mg mb : Str → Option Value} {dp un : Nat} {gd : Option (List Code)} {env : Env} {outer : List Env} {A₀ : Around} {base h₀ : Heap} {L : Addr} {m : Str → Option Value} {s : Shared} {Q E : Value → Shared → Prop} {l l1 rest : List (Addr × Obj)}
theorem draw_use {d c : Nat} {cells : List Int} {vs : List Value} {nd nc : Nat} {mx : Int} {tk0 : Tok} {many : Int} {tkm : Tok}
    (hf : env.frame = some L) (hk : env.scope.kind = .function) (B : Below A₀ base outer h₀) (F : Fr h₀ L s.heap m) (X : (hd.heap_1 w.params).In h₀) (N : News h₀ L s.heap l) (T : Top p loose mean mg mb h₀)
    (e1 : Ext (d, listOf #[.ref c, .int mx tk0] nd) l l1) (e2 : Ext (c, listOf vs.toArray nc) l1 rest)
    (hi : IntsAre vs cells) (hc : Cells cells) (hm : 0 ≤ mx ∧ mx < 2147483647) (hmany : 0 < many ∧ many ≤ 1000) (hdc : d ≠ c) (hnd : ∀ p ∈ rest, p.1 ≠ d) (hnc : ∀ p ∈ rest, p.1 ≠ c)
    (hd1 : dp + 4 < 1000) (hu1 : un + 200 < 9900)
    (ret : ∀ k t cells vs nd nc mx tk h' tk', Fr h₀ L h' m → News h₀ L h' ((d, listOf #[.ref c, .int mx tk] nd) :: (c, listOf vs.toArray nc) :: rest) → IntsAre vs cells → Cells cells → (0 ≤ mx ∧ mx < 2147483647) → InW many k → Q (.int k t) { s with heap := h', toks := tk' }) :
    wpAny (model prog w) (arTop dp un gd env outer) (call (.ref 793) [.ref d, .int many tkm]) Q E s := by
  refine draw_spec prog w d c cells vs nd nc mx tk0 many tkm rest hi hc hm hmany hdc hnd hnc _ _ _ _ _ _ _ _ _ _ _ _ _ _ _ _ _ _ hf hk B F X ?_ T hd1 hu1 ?_
  · intro p hp
    rcases List.mem_cons.mp hp with rfl | hp
    · exact e1.news N _ (.head _)
    · have N1 : News h₀ L s.heap l1 := fun p hp => e1.news N p (.tail _ hp)
      exact e2.news N1 p hp
  · rintro r news' h' tk' F' N' ⟨k, t, cells, vs, nd, nc, mx, tk, rfl, h1, h2, rfl, h3, h4, h5⟩
    exact ret k t cells vs nd nc mx tk h' tk' F' N' h3 h4 h5 ⟨h1, h2⟩
end

noncomputable def manyOf (k : Int) : Nat := if k = 6 then 3 else if k = 8 ∨ k = 9 ∨ k = 11 then 2 else 1
noncomputable def wordOf (k : Int) : Str := if k = 4 then "setlocal" else if k = 5 then "setglobal" else if k = 6 then "if" else if k = 8 then "call" else if k = 9 then "seq" else "prim"
theorem manyOf_le (k : Int) : manyOf k ≤ 3 := by
  unfold manyOf
  split
  · exact Nat.le_refl _
  · split
    · decide
    · decide
section
variable {prog : Program} {w : World} {A : Around} {h₀ : Heap} {L : Addr} {s : Shared} {Q : Value → Shared → Prop} {E : Value → Shared → Prop} {news : List (Addr × Obj)}
theorem item_word {value slice : PySem.Expr} {l n : Nat} {t0 t1 t2 t3 : Tok} {k : Int} {u : Tok} (N : News h₀ L s.heap news) (hm : (l, listOf #[.str "const" t0, .str "local" t1, .str "local" t2, .str "global" t3] n) ∈ news) (h0 : 0 ≤ k) (h4 : k < 4)
    (h : ∀ (w : Str) t, (w = "const" ∨ w = "local" ∨ w = "global") → Q (.str w t) s)
    (hs : subscripted slice false (.ref l) (.int k u) = operate [.ref l, .int k u] (getItem (.ref l) (.int k u))) : wpAny (model prog w) A (subscriptTail value slice (.ref l) (.int k u)) Q E s := by
  have hk : k = 0 ∨ k = 1 ∨ k = 2 ∨ k = 3 := by omega
  rcases hk with rfl | rfl | rfl | rfl
  · exact item_lst N hm (by decide) (by decide) rfl (h _ _ (.inl rfl)) hs
  · exact item_lst N hm (by decide) (by decide) rfl (h _ _ (.inr (.inl rfl))) hs
  · exact item_lst N hm (by decide) (by decide) rfl (h _ _ (.inr (.inl rfl))) hs
  · exact item_lst N hm (by decide) (by decide) rfl (h _ _ (.inr (.inr rfl))) hs
theorem dict_many {l : Addr} {o : Obj} {kvs : List (Int × Value)} {D : List (PyData × PyData)} {k : Int} {u : Tok} (N : News h₀ L s.heap news) (hm : (l, o) ∈ news) (lo : (l == sysModules) = false) (hd : o.IsDictOf (intKind prog w) kvs) (hf : PyProof.V.FlatPairs PyData.int kvs D)
    (hD : D = [(.int 4, .int 1), (.int 5, .int 1), (.int 6, .int 3), (.int 7, .int 1), (.int 8, .int 2), (.int 9, .int 2), (.int 10, .int 1), (.int 11, .int 2)]) (h0 : ¬ k < 4) (h1 : k < 12)
    (h : ∀ n t, n = manyOf k → Q (.int (n : Nat) t) { s with toks := s.toks + 1 }) : wpAny (model prog w) A (getItem (.ref l) (.int k u)) Q E s := by
  subst hD
  have hk : k = 4 ∨ k = 5 ∨ k = 6 ∨ k = 7 ∨ k = 8 ∨ k = 9 ∨ k = 10 ∨ k = 11 := by omega
  rcases hk with rfl | rfl | rfl | rfl | rfl | rfl | rfl | rfl
  · exact dict_int N hm lo hd hf (j := 1) rfl fun t => h 1 t rfl
  · exact dict_int N hm lo hd hf (j := 1) rfl fun t => h 1 t rfl
  · exact dict_int N hm lo hd hf (j := 3) rfl fun t => h 3 t rfl
  · exact dict_int N hm lo hd hf (j := 1) rfl fun t => h 1 t rfl
  · exact dict_int N hm lo hd hf (j := 2) rfl fun t => h 2 t rfl
  · exact dict_int N hm lo hd hf (j := 2) rfl fun t => h 2 t rfl
  · exact dict_int N hm lo hd hf (j := 1) rfl fun t => h 1 t rfl
  · exact dict_int N hm lo hd hf (j := 2) rfl fun t => h 2 t rfl
theorem dict_word {l : Addr} {o : Obj} {kvs : List (Int × Value)} {D : List (PyData × PyData)} {k : Int} {u : Tok} (N : News h₀ L s.heap news) (hm : (l, o) ∈ news) (lo : (l == sysModules) = false) (hd : o.IsDictOf (intKind prog w) kvs) (hf : PyProof.V.FlatPairs PyData.int kvs D)
    (hD : D = [(.int 4, .str "setlocal"), (.int 5, .str "setglobal"), (.int 6, .str "if"), (.int 8, .str "call"), (.int 9, .str "seq"), (.int 10, .str "prim")]) (h0 : ¬ k < 4) (h1 : k < 12) (h7 : ¬ k = 7) (h11 : ¬ k = 11)
    (h : ∀ t, Q (.str (wordOf k) t) { s with toks := s.toks + 1 }) : wpAny (model prog w) A (getItem (.ref l) (.int k u)) Q E s := by
  subst hD
  have hk : k = 4 ∨ k = 5 ∨ k = 6 ∨ k = 8 ∨ k = 9 ∨ k = 10 := by omega
  rcases hk with rfl | rfl | rfl | rfl | rfl | rfl
  · exact dict_strv N hm lo hd hf (j := "setlocal") rfl fun t => h t
  · exact dict_strv N hm lo hd hf (j := "setglobal") rfl fun t => h t
  · exact dict_strv N hm lo hd hf (j := "if") rfl fun t => h t
  · exact dict_strv N hm lo hd hf (j := "call") rfl fun t => h t
  · exact dict_strv N hm lo hd hf (j := "seq") rfl fun t => h t
  · exact dict_strv N hm lo hd hf (j := "prim") rfl fun t => h t
end
theorem wf_word {k j : Int} (h0 : ¬ k < 4) (h1 : k < 12) (h7 : ¬ k = 7) (h11 : ¬ k = 11) (hj : 0 ≤ j ∧ j < 3) : wfh 2 (.s (wordOf k) j) (manyOf k) := by
  have hk : k = 4 ∨ k = 5 ∨ k = 6 ∨ k = 8 ∨ k = 9 ∨ k = 10 := by omega
  refine ⟨hj, ?_⟩
  rcases hk with rfl | rfl | rfl | rfl | rfl | rfl
  · exact .inr (.inl ⟨.inl rfl, rfl⟩)
  · exact .inr (.inl ⟨.inr rfl, rfl⟩)
  · exact .inr (.inr (.inl ⟨rfl, rfl⟩))
  · exact .inr (.inr (.inr (.inl ⟨rfl, by decide, by decide⟩)))
  · exact .inr (.inr (.inr (.inr ⟨.inl rfl, by decide⟩)))
  · exact .inr (.inr (.inr (.inr ⟨.inr rfl, by decide⟩)))
theorem InW.nat {k : Int} (h : InW 3 k) : ∃ n : Nat, k = (n : Int) ∧ n ≤ 2 := by
  obtain ⟨h0, h1⟩ := h
  exact ⟨k.toNat, by omega, by omega⟩
theorem two_of {tl : List (Addr × Obj)} {ts : List T} {ys : List Value} {k : Int} (h : TreesIn tl ts ys) (hl : ts.length = manyOf k) (hk : k = 11) : ∃ t1 t2 v1 v2, ts = [t1, t2] ∧ ys = [v1, v2] ∧ TreeIn tl t1 v1 ∧ TreeIn tl t2 v2 := by
  subst hk
  match ts, hl with
  | [t1, t2], _ =>
    obtain ⟨v1, r, rfl, h1, h⟩ := h.inv
    obtain ⟨v2, r, rfl, h2, h⟩ := h.inv
    rw [h.inv0]
    exact ⟨t1, t2, v1, v2, rfl, rfl, h1, h2⟩
theorem fil_one {l l9 tl : List (Addr × Obj)} {r : Value} {t : T} (ht : TreeIn tl t r) (sub : ∀ p ∈ tl, p ∈ l9) (fr : ∀ p ∈ tl, ∀ q ∈ l, q.1 ≠ p.1) : TreeIn (fil l l9) t r := TreeIn.mono (fun p hp => fil_mem (sub p hp) (fr p hp)) _ _ ht
theorem wf_lam {l : Int} {ps : List Int} {r : Int} {n : Nat} (hl : InW 3 l) (hp : ∀ x ∈ ps, in3 x) (hn : ps.length ≤ 2) (hr : InW 4 r) (h1 : n = 1) : wfh 2 (.lam l ps (r - 1)) n := by
  obtain ⟨r0, r1⟩ := hr
  exact ⟨hl, hp, hn, ⟨.inl (by omega), by omega, by omega⟩, h1⟩
theorem manyOf7 {k : Int} (h : k = 7) : manyOf k = 1 := by subst h; rfl
end
section
set_option maxHeartbeats 6000000
theorem kw10 : True := by
  k_with_none
  k_with "ke_room" => (first | ((have hcL9ZZ := cLine_is; simp only [units_in1, units_deeper, Around.mark_units, units_caller]; (try dsimp only [arTop]); omega)) | fail)
  k_with "k_units" => (first | (ke_room) | fail)
  k_with "units_room" => (first | (ke_room) | fail)
  k_with "k_room" => (first | (((try simp only [depth_under_make, depth_under_kw, depth_in1, depth_deeper, depth_caller]); (try dsimp only [arTop]); (try simp only [recursionLimit]); omega)) | fail)
  k_with "ktr_room" => (first | (k_room) | fail)
  k_with "ktr_member" => (first | (first | exact allLt_ne (by with_reducible assumption) | exact allLt_ne1 (by with_reducible assumption) | exact allLt_ne2 (by with_reducible assumption) | exact off3_I (by with_reducible assumption) | exact off3_C (by with_reducible assumption) | exact off3_D (by with_reducible assumption) | exact off1_D (by with_reducible assumption)) | fail)
  k_with "k_ne" => (first | ((refine neN ?_; (try dsimp only); first | with_reducible assumption | exact Ne.symm (by with_reducible assumption) | exact Nat.ne_of_lt (by with_reducible assumption) | exact Nat.ne_of_gt (by with_reducible assumption) | omega)) | fail)
  k_with "kst_all" => (first | (first | with_reducible assumption | ktr_member | exact off_app (by first | with_reducible assumption | ktr_member) | exact off_app (off_app (by first | with_reducible assumption | ktr_member)) | exact off_app (off_app (off_app (by first | with_reducible assumption | ktr_member)))) | fail)
  k_with "kst_mem" => (first | ((refine' fil_mem ?aQ9 ?bQ9; (case aQ9 => k_mem); (case bQ9 => k_all))) | fail)
  k_with "kst_p" => (first | ((refine' fil_tree ?aQ10 ?bQ10 ?cQ10; (case aQ10 => with_reducible assumption); (case bQ10 => tb_start); (case cQ10 => exact fr_tl (by with_reducible assumption) (by with_reducible assumption) (by with_reducible assumption) (by with_reducible assumption) (by tb_start)))) | fail)
  k_with "k_all" => (first | (first | exact List.forall_mem_nil _ | (refine' List.forall_mem_cons.mpr ⟨?aQ11, ?bQ11⟩; (case aQ11 => k_ne); (case bQ11 => k_all)) | kst_all) | fail)
  k_with "lcg_off" => (first | (first | exact True.intro | (refine And.intro ⟨?aQ12, ?bQ12, ?cQ12⟩ ?dQ12; (case aQ12 => k_ne); (case bQ12 => k_ne); (case cQ12 => k_ne); (case dQ12 => lcg_off)) | with_reducible assumption | exact off3_of (by first | with_reducible assumption | ktr_member) (by first | with_reducible assumption | ktr_member) (by first | with_reducible assumption | ktr_member)) | fail)
  k_with "tb_rel" => (first | (first | with_reducible assumption | (refine List.mem_cons_of_mem _ ?_; tb_rel) | (refine List.mem_append.mpr (Or.inr ?_); tb_rel) | (refine List.mem_append.mpr (Or.inl ?_); tb_rel)) | fail)
  k_with "tb_start" => (first | ((intro p9ZZ hp9ZZ; tb_rel)) | fail)
  k_with "tbn_lt" => (first | (first | exact Ext.head | (refine' Ext.tail ?aQ15; (case aQ15 => tbn_lt))) | fail)
  k_with "tbn_below" => (first | (first | (refine' Split.cons ?aQ16; (case aQ16 => tbn_below)) | exact Split.base) | fail)
  k_with "tbn_conj" => (first | (first | exact True.intro | (refine' And.intro ?aQ17 ?bQ17; (case aQ17 => first | with_reducible assumption | ktr_member); (case bQ17 => tbn_conj))) | fail)
  k_with "my ite" => ((k_closed; first | (refine' iteBT ?p9Q18 ?_; (case p9Q18 => decide)) | (refine' iteBF ?p9Q18 ?_; (case p9Q18 => decide))))
  k_with "my CompEnd" => ((k_here; k_dflt (refine' comp_end ?FQ19 ?NQ19 ?e1Q19 ?e2Q19 ?e3Q19 ?offQ19 ?_; (case FQ19 => k_asm); (case NQ19 => k_asm); (case e1Q19 => tbn_lt); (case e2Q19 => tbn_lt); (case e3Q19 => tbn_lt); (case offQ19 => lcg_off))))
  k_with "my CompSrc" => ((k_here; k_dflt (refine LCg.CompSrc.range (by rfl) (by k_asm) (by k_asm) (by assumption) (by first | decide | rfl) (by first | rfl | decide) (by first | size_fits | exact Nat.le_of_ble_eq_true rfl) ?_; intro g'ZZ; lcg_lit)))
  k_with "my CompRest" => ((with_unfolding_all first | (refine LCg.CompRest.succ ?_; intro v'ZZ I'ZZ oI'ZZ C'ZZ oC'ZZ D'ZZ m'ZZ h'ZZ tk'ZZ E'ZZ hv'ZZ hC'ZZ hx'ZZ F'ZZ N'ZZ off'ZZ ne'ZZ; (first | lcg_open hv'ZZ | (obtain ⟨t9'ZZ, hv9'ZZ⟩ := hv'ZZ; subst hv9'ZZ)); (try dsimp only [LCg.Off3] at off'ZZ); (refine let_goal ?_); intro G9ZZ; (repeat (with_reducible obtain ⟨⟨_, _, _⟩, off'ZZ⟩ := off'ZZ)); (obtain ⟨_, _, _⟩ := ne'ZZ); k_unfold; clear G9ZZ) | refine LCg.CompRest.zero ?_))
  k_with "my FinE" => (((unfold LCg.FinE); intro D'ZZ h'ZZ tk'ZZ F'ZZ N'ZZ o1'ZZ; (try dsimp only [LCg.Off1] at o1'ZZ); (refine let_goal ?_); intro G9ZZ; (repeat (with_reducible obtain ⟨_, o1'ZZ⟩ := o1'ZZ)); k_unfold; clear G9ZZ; (try simp only [List.nil_append, List.cons_append] at N'ZZ); (try dsimp only)))
  trivial
/-- what the walk of _law_tree with fuel x leaves: y the fuel that is left, tl what is new -/
noncomputable def TreePost (d c f : Nat) (x : Int) (imm : List (Addr × Obj)) (l : List (Addr × Obj)) (r : Value) (news' : List (Addr × Obj)) : Prop :=
  ∃ t cells vs nd nc mx tk y tky nf tl, news' = (d, listOf #[.ref c, .int mx tk] nd) :: (c, listOf vs.toArray nc) :: (f, listOf #[.int y tky] nf) :: (tl ++ imm) ∧
    IntsAre vs cells ∧ Cells cells ∧ (0 ≤ mx ∧ mx < 2147483647) ∧ (∀ p ∈ tl, ∀ q ∈ l, q.1 ≠ p.1) ∧ TreeIn tl t r ∧ TF x y t
noncomputable def TreeSpec (prog : Program) (w : World) (x : Int) : Prop :=
  ∀ (d c f : Nat) (cells : List Int) (vs : List Value) (nd nc nf : Nat) (mx : Int) (tk0 tkx : Tok) (imm : List (Addr × Obj)),
   IntsAre vs cells → Cells cells → (0 ≤ mx ∧ mx < 2147483647) → d ≠ c → d ≠ f → c ≠ f → (∀ p ∈ imm, p.1 ≠ d) → (∀ p ∈ imm, p.1 ≠ c) → (∀ p ∈ imm, p.1 ≠ f) →
   CallsTo prog w (hd.heap_1 w.params) 805 [.ref d, .ref f] ((d, listOf #[.ref c, .int mx tk0] nd) :: (c, listOf vs.toArray nc) :: (f, listOf #[.int x tkx] nf) :: imm) (2 * x.toNat + 10) (20 * x.toNat + 400)
     (TreePost d c f x imm ((d, listOf #[.ref c, .int mx tk0] nd) :: (c, listOf vs.toArray nc) :: (f, listOf #[.int x tkx] nf) :: imm))
theorem toNat_le {x y : Int} (h : y ≤ x - 1) : y.toNat ≤ x.toNat := by omega
theorem lt1 {x : Int} (h : 0 < x - 1) : (x - 1).toNat < x.toNat := by omega
theorem lt2 {x y : Int} (h : 0 < x - 1) (h1 : y.toNat ≤ (x - 1).toNat) : y.toNat < x.toNat := by omega
theorem lt3 {x y z : Int} (h : 0 < x - 1) (h1 : y.toNat ≤ (x - 1).toNat) (h2 : z.toNat ≤ y.toNat) : z.toNat < x.toNat := by omega
theorem room1 {dp : Nat} {x y : Int} (h : dp + (2 * x.toNat + 10) < 1000) (hy : y.toNat < x.toNat) : dp + 1 + (2 * y.toNat + 10) < 1000 := by omega
theorem room2 {un : Nat} {x y : Int} (h : un + (20 * x.toNat + 400) < 9900) (hy : y.toNat < x.toNat) : un + 3 + 1 + 1 + 1 + (20 * y.toNat + 400) < 9900 := by omega
theorem un_up {a b n : Nat} (h : b + n < 9900) (k : a ≤ b) : a + n < 9900 := by omega
noncomputable def TreeBelow (prog : Program) (w : World) (x : Int) : Prop := ∀ y, y.toNat < x.toNat → TreeSpec prog w y
theorem TreeBelow.at {prog : Program} {w : World} {x y : Int} (h : TreeBelow prog w x) (hy : y.toNat < x.toNat) : TreeSpec prog w y := h y hy
section
variable {prog : Program} {w : World} {p : Program} {loose : List Str} {mean : ExcName → Option Value} {mg mb : Str → Option Value} {dp un : Nat} {gd : Option (List Code)} {env : Env} {outer : List Env} {A₀ : Around} {base h₀ : Heap} {L : Addr} {m : Str → Option Value} {s : Shared} {Q E : Value → Shared → Prop} {l l1 l2 rest pre imm : List (Addr × Obj)}
theorem tree_use {d c f : Nat} {cells : List Int} {vs : List Value} {nd nc nf : Nat} {mx x : Int} {tk0 tkx : Tok} (S : TreeSpec prog w x)
    (hf : env.frame = some L) (hk : env.scope.kind = .function) (B : Below A₀ base outer h₀) (F : Fr h₀ L s.heap m) (X : (hd.heap_1 w.params).In h₀) (N : News h₀ L s.heap l) (T : Top p loose mean mg mb h₀)
    (e1 : Ext (d, listOf #[.ref c, .int mx tk0] nd) l l1) (e2 : Ext (c, listOf vs.toArray nc) l1 l2) (e3 : Ext (f, listOf #[.int x tkx] nf) l2 rest) (sp : Split rest pre imm)
    (hi : IntsAre vs cells) (hc : Cells cells) (hm : 0 ≤ mx ∧ mx < 2147483647) (hdc : d ≠ c) (hdf : d ≠ f) (hcf : c ≠ f) (hnd : ∀ p ∈ rest, p.1 ≠ d) (hnc : ∀ p ∈ rest, p.1 ≠ c) (hnf : ∀ p ∈ rest, p.1 ≠ f) (hao : AllOff pre imm)
    (hd1 : dp + (2 * x.toNat + 10) < 1000) (hu1 : un + (20 * x.toNat + 400) < 9900)
    (ret : ∀ r t cells vs nd nc mx tk y tky nf tl h' tk', Fr h₀ L h' m → News h₀ L h' ((d, listOf #[.ref c, .int mx tk] nd) :: (c, listOf vs.toArray nc) :: (f, listOf #[.int y tky] nf) :: (pre ++ (tl ++ imm))) → IntsAre vs cells → Cells cells → (0 ≤ mx ∧ mx < 2147483647) →
      AllOff pre (tl ++ imm) → (∀ p ∈ tl ++ imm, p.1 ≠ d) → (∀ p ∈ tl ++ imm, p.1 ≠ c) → (∀ p ∈ tl ++ imm, p.1 ≠ f) → (∀ p ∈ tl, ∀ q ∈ imm, q.1 ≠ p.1) → TreeIn tl t r → TF x y t → y.toNat ≤ x.toNat → Q r { s with heap := h', toks := tk' }) :
    wpAny (model prog w) (arTop dp un gd env outer) (call (.ref 805) [.ref d, .ref f]) Q E s := by
  have N1 : News h₀ L s.heap l1 := fun p hp => e1.news N p (.tail _ hp)
  have N2 : News h₀ L s.heap l2 := fun p hp => e2.news N1 p (.tail _ hp)
  have hr := sp.eq
  refine S d c f cells vs nd nc nf mx tk0 tkx rest hi hc hm hdc hdf hcf hnd hnc hnf _ _ _ _ _ _ _ _ _ _ _ _ _ _ _ _ _ _ hf hk B F X ?_ T hd1 hu1 ?_
  · exact news_cons N ((e1.mem _).mpr (.inl rfl)) (news_cons N1 ((e2.mem _).mpr (.inl rfl)) (e3.news N2))
  · rintro r news' h' tk' F' N' ⟨t, cells, vs', nd', nc', mx', tk, y, tky, nf', tl, rfl, h1, h2, h3, h4, h5, h6⟩
    have off : ∀ z : Nat, (z = d ∨ z = c ∨ z = f) → (∀ p ∈ rest, p.1 ≠ z) → ∀ p ∈ tl ++ imm, p.1 ≠ z := fun z hz hq p hp => by
      rcases List.mem_append.mp hp with hp | hp
      · have hx := h4 p hp
        rcases hz with rfl | rfl | rfl
        · exact fun e => hx _ (.head _) e.symm
        · exact fun e => hx _ (.tail _ (.head _)) e.symm
        · exact fun e => hx _ (.tail _ (.tail _ (.head _))) e.symm
      · exact hq p (by rw [hr]; exact List.mem_append.mpr (.inr hp))
    refine ret r t cells vs' nd' nc' mx' tk y tky nf' tl h' tk' F' ?_ h1 h2 h3 (AllOff.app (fun p hp q hq => h4 p hp q (.tail _ (.tail _ (.tail _ (by rw [hr]; exact List.mem_append.mpr (.inl hq)))))) hao)
      (off d (.inl rfl) hnd) (off c (.inr (.inl rfl)) hnc) (off f (.inr (.inr rfl)) hnf) (fun p hp q hq => h4 p hp q (.tail _ (.tail _ (.tail _ (by rw [hr]; exact List.mem_append.mpr (.inr hq)))))) h5 h6 h6.toNat_le
    intro p hp
    apply N'
    rw [hr]
    simp only [List.mem_cons, List.mem_append] at hp ⊢
    rcases hp with h | h | h | h | h | h
    · exact .inl h
    · exact .inr (.inl h)
    · exact .inr (.inr (.inl h))
    · exact .inr (.inr (.inr (.inr (.inl h))))
    · exact .inr (.inr (.inr (.inl h)))
    · exact .inr (.inr (.inr (.inr (.inr h))))
theorem tree_fin {d c f : Nat} {cells : List Int} {vs : List Value} {nd nc nf : Nat} {mx x y : Int} {tk tky : Tok} {l9 : List (Addr × Obj)} {r : Value} {t : T} {h' : Heap} {tk' : Nat}
    (hret : ∀ r news' h' tk', Fr h₀ L h' m → News h₀ L h' news' → TreePost d c f x imm l r news' → Q r { s with heap := h', toks := tk' }) (F : Fr h₀ L h' m) (N : News h₀ L h' l9)
    (m1 : (d, listOf #[.ref c, .int mx tk] nd) ∈ l9) (m2 : (c, listOf vs.toArray nc) ∈ l9) (m3 : (f, listOf #[.int y tky] nf) ∈ l9) (sub : ∀ p ∈ imm, p ∈ l9)
    (hi : IntsAre vs cells) (hc : Cells cells) (hm : 0 ≤ mx ∧ mx < 2147483647) (ht : TreeIn (fil l l9) t r) (htf : TF x y t) : Q r { s with heap := h', toks := tk' } :=
  hret r _ h' tk' F (news_cons N m1 (news_cons N m2 (news_cons N m3 (news_app (news_sub N fil_sub) (news_sub N sub))))) ⟨t, cells, vs, nd, nc, mx, tk, y, tky, nf, fil l l9, rfl, hi, hc, hm, fil_fresh, ht, htf⟩
end
/-- between the turns of the comprehension that makes the parts -/
inductive TreesInv (d c f : Nat) (x0 : Int) (pre imm : List (Addr × Obj)) (i : Nat) (ys : List Value) : List (Addr × Obj) → Prop
  | mk (cells : List Int) (vs : List Value) (nd nc : Nat) (mx : Int) (tk : Tok) (y : Int) (tky : Tok) (nf : Nat) (tl : List (Addr × Obj)) (ts : List T) : IntsAre vs cells → Cells cells → (0 ≤ mx ∧ mx < 2147483647) →
    TreesIn tl ts ys → ts.length = i → TFs x0 y ts → AllOff pre (tl ++ imm) → (∀ p ∈ tl ++ imm, p.1 ≠ d) → (∀ p ∈ tl ++ imm, p.1 ≠ c) → (∀ p ∈ tl ++ imm, p.1 ≠ f) → (∀ p ∈ tl, ∀ q ∈ imm, q.1 ≠ p.1) →
    TreesInv d c f x0 pre imm i ys ((d, listOf #[.ref c, .int mx tk] nd) :: (c, listOf vs.toArray nc) :: (f, listOf #[.int y tky] nf) :: (pre ++ (tl ++ imm)))
theorem TreesInv.start {d c f : Nat} {x0 : Int} {pre imm : List (Addr × Obj)} {cells : List Int} {vs : List Value} {nd nc nf : Nat} {mx : Int} {tk tky : Tok} (hx : 0 < x0) (hi : IntsAre vs cells) (hc : Cells cells) (hm : 0 ≤ mx ∧ mx < 2147483647)
    (hao : AllOff pre imm) (hnd : ∀ p ∈ imm, p.1 ≠ d) (hnc : ∀ p ∈ imm, p.1 ≠ c) (hnf : ∀ p ∈ imm, p.1 ≠ f) : TreesInv d c f x0 pre imm 0 [] ((d, listOf #[.ref c, .int mx tk] nd) :: (c, listOf vs.toArray nc) :: (f, listOf #[.int x0 tky] nf) :: (pre ++ ([] ++ imm))) :=
  .mk cells vs nd nc mx tk x0 tky nf [] [] hi hc hm .nil rfl (.nil hx) hao hnd hnc hnf fun _ h => (nomatch h)
theorem TreesInv.step {d c f : Nat} {x0 y0 y : Int} {pre imm tl tl' : List (Addr × Obj)} {i : Nat} {ys : List Value} {r : Value} {t : T} {ts : List T} {cells : List Int} {vs : List Value} {nd nc nf : Nat} {mx : Int} {tk tky : Tok} (hx : 0 < x0) (hi : IntsAre vs cells) (hc : Cells cells) (hm : 0 ≤ mx ∧ mx < 2147483647)
    (hts : TreesIn tl ts ys) (hl : ts.length = i) (hT : TFs x0 y0 ts) (ht : TreeIn tl' t r) (htf : TF y0 y t) (hao : AllOff pre (tl' ++ (tl ++ imm))) (hnd : ∀ p ∈ tl' ++ (tl ++ imm), p.1 ≠ d) (hnc : ∀ p ∈ tl' ++ (tl ++ imm), p.1 ≠ c) (hnf : ∀ p ∈ tl' ++ (tl ++ imm), p.1 ≠ f)
    (fr' : ∀ p ∈ tl', ∀ q ∈ tl ++ imm, q.1 ≠ p.1) (fr : ∀ p ∈ tl, ∀ q ∈ imm, q.1 ≠ p.1) :
    TreesInv d c f x0 pre imm (i + 1) (ys ++ [r]) ((d, listOf #[.ref c, .int mx tk] nd) :: (c, listOf vs.toArray nc) :: (f, listOf #[.int y tky] nf) :: (pre ++ (tl' ++ (tl ++ imm)))) := by
  have e : tl' ++ (tl ++ imm) = (tl' ++ tl) ++ imm := (List.append_assoc ..).symm
  rw [e] at hao hnd hnc hnf ⊢
  refine .mk cells vs nd nc mx tk y tky nf (tl' ++ tl) (ts ++ [t]) hi hc hm ((TreesIn.mono (fun p hp => List.mem_append_right _ hp) _ _ hts).snoc (TreeIn.mono (fun p hp => List.mem_append_left _ hp) _ _ ht)) (by rw [List.length_append, hl]; rfl) (hT.snoc hx htf) hao hnd hnc hnf fun p hp q hq => ?_
  rcases List.mem_append.mp hp with hp | hp
  · exact fr' p hp q (List.mem_append_right _ hq)
  · exact fr p hp q hq
/-- between the turns of the comprehension that draws the parameters -/
inductive DrawsInv (d c : Nat) (rest : List (Addr × Obj)) (i : Nat) (ys : List Value) : List (Addr × Obj) → Prop
  | mk (cells : List Int) (vs : List Value) (nd nc : Nat) (mx : Int) (tk : Tok) (ns : List Int) : IntsAre vs cells → Cells cells → (0 ≤ mx ∧ mx < 2147483647) → IntsAre ys ns → ns.length = i → (∀ x ∈ ns, in3 x) →
    DrawsInv d c rest i ys ((d, listOf #[.ref c, .int mx tk] nd) :: (c, listOf vs.toArray nc) :: rest)
theorem DrawsInv.start {d c : Nat} {rest : List (Addr × Obj)} {cells : List Int} {vs : List Value} {nd nc : Nat} {mx : Int} {tk : Tok} (hi : IntsAre vs cells) (hc : Cells cells) (hm : 0 ≤ mx ∧ mx < 2147483647) : DrawsInv d c rest 0 [] ((d, listOf #[.ref c, .int mx tk] nd) :: (c, listOf vs.toArray nc) :: rest) :=
  .mk cells vs nd nc mx tk [] hi hc hm .nil rfl fun _ h => (nomatch h)
theorem DrawsInv.step {d c : Nat} {rest : List (Addr × Obj)} {cells ns : List Int} {vs ys : List Value} {nd nc i : Nat} {mx k : Int} {tk t : Tok} (hi : IntsAre vs cells) (hc : Cells cells) (hm : 0 ≤ mx ∧ mx < 2147483647) (hn : IntsAre ys ns) (hl : ns.length = i) (h3 : ∀ x ∈ ns, in3 x) (hk : InW 3 k) :
    DrawsInv d c rest (i + 1) (ys ++ [.int k t]) ((d, listOf #[.ref c, .int mx tk] nd) :: (c, listOf vs.toArray nc) :: rest) :=
  .mk cells vs nd nc mx tk (ns ++ [k]) hi hc hm (hn.append (.cons _ _ .nil)) (by rw [List.length_append, hl]; rfl) fun x hx => by
    rcases List.mem_append.mp hx with hx | hx
    · exact h3 x hx
    · rw [List.mem_singleton.mp hx]; exact hk
theorem kw11 : True := by
  k_with "my subscriptTail" => ((k_here; (with_reducible show wpAny _ _ (subscriptTail _ _ (Value.ref _) (Value.int _ _)) _ _ _); first | k_dflt (refine' item_lst ?NQ26 ?mQ26 ?aQ26 ?bQ26 ?cQ26 ?_ ?dQ26; (case NQ26 => k_asm); (case mQ26 => k_mem); (case aQ26 => decide); (case bQ26 => decide); (case cQ26 => rfl); (case dQ26 => with_unfolding_all rfl); k_whole) | k_dflt (refine' item_tupl ?NQ26 ?mQ26 ?aQ26 ?bQ26 ?cQ26 ?_ ?dQ26; (case NQ26 => k_asm); (case mQ26 => k_mem); (case aQ26 => decide); (case bQ26 => decide); (case cQ26 => rfl); (case dQ26 => with_unfolding_all rfl); k_whole) | ((with_reducible show wpAny _ _ (subscriptTail (Expr.List _ _) _ (Value.ref _) (Value.int _ _)) _ _ _); k_idxSplit)))
  k_with "my subscriptTail Name Constant ref int" => ((k_here; (with_reducible show wpAny _ _ (subscriptTail _ _ (Value.ref _) (Value.int _ _)) _ _ _); first | k_dflt (refine' item_lst ?NQ27 ?mQ27 ?aQ27 ?bQ27 ?cQ27 ?_ ?dQ27; (case NQ27 => k_asm); (case mQ27 => k_mem); (case aQ27 => decide); (case bQ27 => decide); (case cQ27 => rfl); (case dQ27 => with_unfolding_all rfl); k_whole) | k_dflt (refine' item_tupl ?NQ27 ?mQ27 ?aQ27 ?bQ27 ?cQ27 ?_ ?dQ27; (case NQ27 => k_asm); (case mQ27 => k_mem); (case aQ27 => decide); (case bQ27 => decide); (case cQ27 => rfl); (case dQ27 => with_unfolding_all rfl); k_whole) | ((with_reducible show wpAny _ _ (subscriptTail (Expr.List _ _) _ (Value.ref _) (Value.int _ _)) _ _ _); k_idxSplit)))
  k_with "my getItem ref int" => ((k_here; (with_reducible show wpAny _ _ (getItem (Value.ref _) (Value.int _ _)) _ _ _); k_dflt (first | (refine' dict_int ?NQ28 ?mQ28 ?aQ28 ?bQ28 ?cQ28 ?dQ28 ?_; (case NQ28 => k_asm); (case mQ28 => exact List.Mem.head _); (case aQ28 => k_asm); (case bQ28 => k_asm); (case cQ28 => k_asm); (case dQ28 => rfl); k_whole) | (refine' dict_strv ?NQ28 ?mQ28 ?aQ28 ?bQ28 ?cQ28 ?dQ28 ?_; (case NQ28 => k_asm); (case mQ28 => exact List.Mem.head _); (case aQ28 => k_asm); (case bQ28 => k_asm); (case cQ28 => k_asm); (case dQ28 => rfl); k_whole)); intro t'ZZ))
  k_with "my subscriptTail" => ((k_here; (with_reducible show wpAny _ _ (subscriptTail (Expr.Dict _ _ _) _ (Value.ref _) (Value.int _ _)) _ _ _); k_dflt (refine' tab_tail (knd := intKind _ _) (enc := PyData.int) ?TQ29 ?_; (case TQ29 => k_tabat); k_whole)))
  k_with "my subscriptTail" => ((k_here; (with_reducible show wpAny _ _ (subscriptTail (Expr.List _ _) _ (Value.ref _) (Value.int _ _)) _ _ _); k_dflt (refine' item_word ?NQ30 ?mQ30 ?aQ30 ?bQ30 ?_ ?dQ30; (case NQ30 => k_asm); (case mQ30 => k_mem); (case aQ30 => exact InW.lo (by with_reducible assumption)); (case bQ30 => with_reducible assumption); (case dQ30 => with_unfolding_all rfl)); intro w'ZZ t'ZZ hw'ZZ))
  k_with "my getItem ref int" => ((k_here; (with_reducible show wpAny _ _ (getItem (Value.ref _) (Value.int _ _)) _ _ _); k_dflt (first | (refine' dict_many ?NQ31 ?mQ31 ?aQ31 ?bQ31 ?cQ31 ?dQ31 ?eQ31 ?fQ31 ?_; (case NQ31 => k_asm); (case mQ31 => exact List.Mem.head _); (case aQ31 => k_asm); (case bQ31 => k_asm); (case cQ31 => k_asm); (case dQ31 => rfl); (case eQ31 => with_reducible assumption); (case fQ31 => exact InW.hi (by with_reducible assumption)); intro n'ZZ t'ZZ hn'ZZ) | (refine' dict_word ?NQ31 ?mQ31 ?aQ31 ?bQ31 ?cQ31 ?dQ31 ?eQ31 ?fQ31 ?gQ31 ?hQ31 ?_; (case NQ31 => k_asm); (case mQ31 => exact List.Mem.head _); (case aQ31 => k_asm); (case bQ31 => k_asm); (case cQ31 => k_asm); (case dQ31 => rfl); (case eQ31 => with_reducible assumption); (case fQ31 => exact InW.hi (by with_reducible assumption)); (case gQ31 => with_reducible assumption); (case hQ31 => with_reducible assumption); intro t'ZZ))))
  k_with "my call ref" => (((with_reducible show wpAny _ _ (call (Value.ref 793) _) _ _ _); refine Stop.out ?_))
  k_with "my call ref" => (((with_reducible show wpAny _ _ (call (Value.ref 805) _) _ _ _); refine Stop.out ?_))
  k_with "my call ref" => (((with_reducible show wpAny _ _ (call (Value.ref 812) _) _ _ _); refine Stop.out ?_))
  k_with "my call ref" => ((k_here; (with_reducible show wpAny _ _ (call (Value.ref 793) [Value.ref _, Value.int _ _]) _ _ _); k_dflt (refine' draw_use ?hfQ35 ?hkQ35 ?BQ35 ?FQ35 ?XQ35 ?NQ35 ?TQ35 ?e1Q35 ?e2Q35 ?hiQ35 ?hcQ35 ?hmQ35 ?hmanyQ35 ?hdcQ35 ?hndQ35 ?hncQ35 ?hd1Q35 ?hu1Q35 ?_; (case hfQ35 => rfl); (case hkQ35 => first | rfl | assumption); (case BQ35 => k_asm); (case FQ35 => k_asm); (case XQ35 => k_in); (case NQ35 => k_asm); (case TQ35 => k_asm); (case e1Q35 => tbn_lt); (case e2Q35 => tbn_lt); (case hiQ35 => k_asm); (case hcQ35 => k_asm); (case hmQ35 => k_asm); (case hmanyQ35 => decide); (case hdcQ35 => k_ne); (case hndQ35 => k_all); (case hncQ35 => k_all); (case hd1Q35 => k_room); (case hu1Q35 => ke_room)); intro k'ZZ t'ZZ cells'ZZ vs'ZZ nd'ZZ nc'ZZ mx'ZZ tk''ZZ h'ZZ tk'ZZ F'ZZ N'ZZ hi'ZZ hc'ZZ hm'ZZ hk'ZZ; (try k_sweep)))
  k_with "my call ref" => ((k_here; (with_reducible show wpAny _ _ (call (Value.ref 793) [Value.ref _, Value.int 4 _]) _ _ _); k_dflt (refine' draw_use ?hfQ36 ?hkQ36 ?BQ36 ?FQ36 ?XQ36 ?NQ36 ?TQ36 ?e1Q36 ?e2Q36 ?hiQ36 ?hcQ36 ?hmQ36 ?hmanyQ36 ?hdcQ36 ?hndQ36 ?hncQ36 ?hd1Q36 ?hu1Q36 ?_; (case hfQ36 => rfl); (case hkQ36 => first | rfl | assumption); (case BQ36 => k_asm); (case FQ36 => k_asm); (case XQ36 => k_in); (case NQ36 => k_asm); (case TQ36 => k_asm); (case e1Q36 => tbn_lt); (case e2Q36 => tbn_lt); (case hiQ36 => k_asm); (case hcQ36 => k_asm); (case hmQ36 => k_asm); (case hmanyQ36 => decide); (case hdcQ36 => k_ne); (case hndQ36 => k_all); (case hncQ36 => k_all); (case hd1Q36 => k_room); (case hu1Q36 => ke_room)); intro k'ZZ t'ZZ cells'ZZ vs'ZZ nd'ZZ nc'ZZ mx'ZZ tk''ZZ h'ZZ tk'ZZ F'ZZ N'ZZ hi'ZZ hc'ZZ hm'ZZ hk'ZZ; (have hk4'ZZ := InW.hi hk'ZZ); (try k_sweep)))
  k_with "my call ref" => ((k_here; (with_reducible show wpAny _ _ (call (Value.ref 805) [Value.ref _, Value.ref _]) _ _ _); k_dflt (refine' tree_use ?SQ37 ?hfQ37 ?hkQ37 ?BQ37 ?FQ37 ?XQ37 ?NQ37 ?TQ37 ?e1Q37 ?e2Q37 ?e3Q37 ?spQ37 ?hiQ37 ?hcQ37 ?hmQ37 ?hdcQ37 ?hdfQ37 ?hcfQ37 ?hndQ37 ?hncQ37 ?hnfQ37 ?haoQ37 ?hd1Q37 ?hu1Q37 ?_; (case hfQ37 => rfl); (case hkQ37 => first | rfl | assumption); (case BQ37 => k_asm); (case FQ37 => k_asm); (case XQ37 => k_in); (case NQ37 => k_asm); (case TQ37 => k_asm); (case e1Q37 => tbn_lt); (case e2Q37 => tbn_lt); (case e3Q37 => tbn_lt); (case spQ37 => tbn_below); (case SQ37 => exact TreeBelow.at (by assumption) (by ktr_unf)); (case hiQ37 => k_asm); (case hcQ37 => k_asm); (case hmQ37 => k_asm); (case hdcQ37 => k_ne); (case hdfQ37 => k_ne); (case hcfQ37 => k_ne); (case hndQ37 => k_all); (case hncQ37 => k_all); (case hnfQ37 => k_all); (case haoQ37 => tbn_conj); (case hd1Q37 => exact room1 (by assumption) (by ktr_unf)); (case hu1Q37 => exact un_up (room2 (by assumption) (by ktr_unf)) (by first | exact Nat.le_refl _ | exact Nat.le_succ _ | exact Nat.le_add_right _ 2 | exact Nat.le_add_right _ 3))); intro r'ZZ t'ZZ cells'ZZ vs'ZZ nd'ZZ nc'ZZ mx'ZZ tk''ZZ y'ZZ tky'ZZ nf'ZZ tl'ZZ h'ZZ tk'ZZ F'ZZ N'ZZ hi'ZZ hc'ZZ hm'ZZ hg'ZZ hnd'ZZ hnc'ZZ hnf'ZZ hfr'ZZ ht'ZZ htf'ZZ hy4'ZZ; (try simp only [List.cons_append, List.nil_append] at N'ZZ); (try dsimp only [AllOff] at hg'ZZ); (repeat (with_reducible obtain ⟨_, hg'ZZ⟩ := hg'ZZ)); (try k_sweep)))
  k_with "ktr_unf" => (first | (first | exact lt1 (by assumption) | exact lt2 (by assumption) (by assumption) | exact lt3 (by assumption) (by assumption) (by assumption)) | fail)
  k_with "my subscriptTail Name Slice ref ref" => ((k_here; (with_reducible show wpAny _ _ (subscriptTail _ (PySem.Expr.Slice _ _ _ _) (Value.ref _) (Value.ref _)) _ _ _); k_dflt (refine' slice_tup ?FQ39 ?NQ39 ?lQ39 ?aQ39 ?noQ39 ?zQ39 ?_ ?sQ39 ?tQ39 ?szQ39; (case FQ39 => k_asm); (case NQ39 => k_asm); (case lQ39 => k_mem); (case aQ39 => first | exact sl_rev | exact sl_upto (b := 1) (Nat.le_of_ble_eq_true rfl) | exact sl_from (a := 1) (Nat.le_of_ble_eq_true rfl) | exact sl_upto (b := 0) (Nat.le_of_ble_eq_true rfl) | exact sl_upto (b := 2) (Nat.le_of_ble_eq_true rfl) | exact sl_from (a := 2) (Nat.le_of_ble_eq_true rfl) | exact sl_from (a := 3) (Nat.le_of_ble_eq_true rfl)); (case noQ39 => rfl); (case zQ39 => kl_lit); (case sQ39 => with_unfolding_all rfl); (case tQ39 => kmk_pure); (case szQ39 => exact Nat.le_of_ble_eq_true rfl)); intro D'ZZ h'ZZ F'ZZ N'ZZ l1ZZ; (try k_sweep)))
  k_with "my call type:range" => ((k_here; (with_reducible show wpAny _ _ (call (Value.type "range") [Value.int _ _]) _ _ _); (fail_if_success (with_reducible show wpAny _ _ (call (Value.type "range") [Value.int ((_ : Nat) : Int) _]) _ _ _)); (with_reducible rename InW 3 _ => hk3ZZ); obtain ⟨n9ZZ, e9ZZ, hn9ZZ⟩ := InW.nat hk3ZZ; clear hk3ZZ; subst e9ZZ))
  k_with "my CompSrc" => ((refine Stop.out ?_))
  k_with "my subscriptTail Name Slice ref ref" => (((fail_if_success (with_reducible rename Mk2 => q9ZZ)); refine Stop.out ?_))
  k_with "my call type:tuple" => ((k_here; (with_reducible show wpAny _ _ (call (Value.type _) [Value.ref _]) _ _ _); k_dflt (refine' kde_tupleOf ?k1Q43 ?k2Q43 ?k3Q43 ?k4Q43 tl_eq ?_; (case k1Q43 => k_asm); (case k2Q43 => k_asm); (case k3Q43 => exact News.isList (by k_asm) (by k_mem)); (case k4Q43 => exact tup_sz (by with_reducible assumption)); k_whole); intro D'ZZ h'ZZ F'ZZ N'ZZ l1ZZ; (try k_sweep)))
  k_with "my exec Assign" => (k_fold)
  k_with "my exec If" => (k_fold)
  k_with "my exec Return" => (k_fold)
  k_with "my exec Expr" => (k_fold)
  k_with "my newTuple" => ((k_here; k_dflt (refine' kup_newTuple ?FQ48 ?NQ48 ?_ ?zQ48; (case FQ48 => k_asm); (case NQ48 => k_asm); (case zQ48 => kmk_size)); intro D'ZZ h'ZZ F'ZZ N'ZZ l1ZZ; (try k_sweep)))
  k_with "my storeName" => ((k_here; k_dflt (refine' storeX_L ?FQ49 ?NQ49 ?_ ?aQ49 ?bQ49; (case FQ49 => k_asm); (case NQ49 => k_asm); (case aQ49 => rfl); (case bQ49 => rfl); k_whole; intro h'ZZ F'ZZ N'ZZ; (try k_sweep)); (refine let_m F'ZZ ?_); clear F'ZZ; intro m'ZZ F'ZZ))
  k_with "k_ne" => (first | ((refine neN ?_; (try dsimp only); first | with_reducible assumption | exact Ne.symm (by with_reducible assumption) | exact neC (by k_asm) (by k_mem) (by k_mem) tl_ne)) | fail)
  k_with "kst_mem" => (first | ((refine' fil_mem ?aQ51 ?bQ51; (case aQ51 => k_mem); (case bQ51 => first | exact fresh3 (by with_reducible assumption) (by k_mem) (by k_mem) (by k_mem) (by tb_start) | k_all))) | fail)
  trivial
theorem tree_step (prog : Program) (w : World) (x : Int) (ih : TreeBelow prog w x) : TreeSpec prog w x := by
  have hfill9 : PySem.Challenge.rw_on0297_01 = PySem.Challenge.rw_on0297_01 ∧ hd.heap_1 = hd.heap_1 := by
    k_fill
    exact ⟨rfl, rfl⟩
  clear hfill9
  intro d c f cells vs nd nc nf mx tk0 tkx imm hi hc hm hdc hdf hcf hnd hnc hnf
  rintro p loose mean mg mb dp un gd ⟨⟨_, nm, ig, ic, mo⟩, lo, gl, ce, qu, fu, co, _, bu⟩ outer A₀ base h₀ L m s Q E rfl rfl B F X N T hd1 hu1 hret
  refine wpAny_call ?_
  k_dflt k_enter
  refine let_env ?_
  intro env9
  k_steps
  · (rename Fr h₀ L _ m => F9); (rename News h₀ L _ _ => N9)
    refine tree_fin hret F9 N9 (by k_mem) (by k_mem) (by k_mem) (by tb_start) (by assumption) (by assumption) (by assumption) ?_ (.leaf (by assumption) (by assumption))
    exact .node (by kst_mem) ⟨_, rfl⟩ (by kst_mem) .nil
  · refine Stop.into ?_
    (rename InW 12 _ => hk12); (rename ¬ _ < 4 => hk4); (rename _ = manyOf _ => hn9); (rename 0 < x - 1 => hx9)
    subst hn9
    k_dflt (refine' LCg.CompSrc.range ?hh ?F ?N ?R ?sm ?rs ?sz ?_; (case hh => rfl); (case F => k_asm); (case N => exact comp_start (p := (d, listOf #[.ref c, .int _ _] _)) (q := (c, listOf (List.toArray _) _)) (r := (f, listOf #[.int _ _] _)) (by k_asm) (by tbn_lt) (by tbn_lt) (by tbn_lt) (by tbn_below)); (case R => assumption); (case sm => exact small3 (manyOf_le _)); (case rs => exact size3 (manyOf_le _)); (case sz => exact Nat.le_trans (manyOf_le _) (by decide +kernel)))
    intro g9
    refine comp_ind (TreesInv d c f (x - 1) _ imm) ?step ?fin _ 0 [] _ (Nat.zero_add _) (.start hx9 (by assumption) (by assumption) (by assumption) (by tbn_conj) hnd hnc hnf)
    case step =>
      rintro i9 ys9 _ hi9 ⟨cells9, vs9, nd9, nc9, mx9, tk9, y9, tky9, nf9, tl9, ts9, a1, a2, a3, a4, a5, a6, a7, a8, a9, a10, a11⟩ v9 I9 oI9 C9 oC9 D9 m9 h9 tk9' E9 b1 b2 b3 F9 N9 b4 b5
      have a12 := a6.toNat_le
      dsimp only [List.cons_append, List.nil_append] at N9 b4
      dsimp only [LCg.Off3] at b4
      dsimp only [AllOff] at a7
      refine let_goal ?_
      intro G9
      (repeat (with_reducible obtain ⟨⟨_, _, _⟩, b4⟩ := b4))
      obtain ⟨_, _, _⟩ := b5
      (repeat (with_reducible obtain ⟨_, a7⟩ := a7))
      k_unfold
      clear G9
      k_steps
      exact TreesInv.step hx9 (by assumption) (by assumption) (by assumption) a4 a5 a6 (by assumption) (by assumption) (by tbn_conj) (by assumption) (by assumption) (by assumption) (by assumption) a11
    case fin =>
      rintro ys9 _ ⟨cells9, vs9, nd9, nc9, mx9, tk9, y9, tky9, nf9, tl9, ts9, a1, a2, a3, a4, a5, a6, a7, a8, a9, a10, a11⟩
      have a12 : ys9.length ≤ 3 := by rw [a4.length, a5]; exact manyOf_le _
      dsimp only [AllOff] at a7
      refine let_goal ?_
      intro G9
      (repeat (with_reducible obtain ⟨_, a7⟩ := a7))
      k_unfold
      clear G9
      k_steps
      · refine Stop.into ?_
        (rename (_ : Nat) ≤ 2 => hn10)
        have fr9 := fr_tl (o1 := listOf #[.ref c, .int mx tk0] nd) (o2 := listOf vs.toArray nc) (o3 := listOf #[.int x tkx] nf) a8 a9 a10 a11 (fun _ h => h)
        k_dflt (refine' LCg.CompSrc.range ?hh ?F ?N ?R ?sm ?rs ?sz ?_; (case hh => rfl); (case F => k_asm); (case N => exact comp_start2 (p := (d, listOf #[.ref c, .int _ _] _)) (q := (c, listOf (List.toArray _) _)) (by k_asm) (by tbn_lt) (by tbn_lt)); (case R => assumption); (case sm => exact small3 (Nat.le_succ_of_le hn10)); (case rs => exact size3 (Nat.le_succ_of_le hn10)); (case sz => exact Nat.le_trans hn10 (by decide +kernel)))
        intro g10
        refine comp_ind (DrawsInv d c _) ?step ?fin _ 0 [] _ (Nat.zero_add _) (.start (by assumption) (by assumption) (by assumption))
        case step =>
          rintro i10 ys10 _ hi10 ⟨cells10, vs10, nd10, nc10, mx10, tk10, ns10, c1, c2, c3, c4, c5, c6⟩ v10 I10 oI10 C10 oC10 D10 m10 h10 tk10' E10 b1 b2 b3 F10 N10 b4 b5
          dsimp only [LCg.Off3] at b4
          refine let_goal ?_
          intro G9
          (repeat (with_reducible obtain ⟨⟨_, _, _⟩, b4⟩ := b4))
          obtain ⟨_, _, _⟩ := b5
          k_unfold
          clear G9
          k_steps
          exact DrawsInv.step (by assumption) (by assumption) (by assumption) c4 c5 c6 (by assumption)
        case fin =>
          rintro ys10 _ ⟨cells10, vs10, nd10, nc10, mx10, tk10, ns10, c1, c2, c3, c4, c5, c6⟩
          have c7 : ns10.length ≤ 2 := by rw [c5]; exact hn10
          have c8 : ys10.length ≤ 3 := by rw [c4.length]; exact Nat.le_succ_of_le c7
          k_steps
          (rename Fr h₀ L _ m => F10); (rename News h₀ L _ _ => N10)
          exact tree_fin hret F10 N10 (by k_mem) (by k_mem) (by k_mem) (by tb_start) (by assumption) (by assumption) (by assumption) (.node (h := .lam _ ns10 _) (ts := ts9) (by kst_mem) ⟨_, _, _, _, _, _, _, rfl, by kst_mem, by kst_mem, c4⟩ (by kst_mem) (fil_trees a4 (by tb_start) fr9)) (.node hx9 a6 (wf_lam (by assumption) c6 c7 (by assumption) (by rw [a5]; exact manyOf7 (by assumption))) (by rw [a5]; exact manyOf_le _))
      · refine Stop.into ?_
        have fr9 := fr_tl (o1 := listOf #[.ref c, .int mx tk0] nd) (o2 := listOf vs.toArray nc) (o3 := listOf #[.int x tkx] nf) a8 a9 a10 a11 (fun _ h => h)
        obtain ⟨t1, t2, v1, v2, rfl, rfl, u1, u2⟩ := two_of a4 a5 (by assumption)
        have mk9 := Mk2.mk
        k_steps
        (rename Fr h₀ L _ m => F10); (rename News h₀ L _ _ => N10)
        exact tree_fin hret F10 N10 (by k_mem) (by k_mem) (by k_mem) (by tb_start) (by assumption) (by assumption) (by assumption) (.node (h := .fix _) (ts := [.node (.lam _ [] (-1)) [t1], t2]) (by kst_mem) ⟨_, _, _, rfl, by kst_mem⟩ (by kst_mem) (.cons (.node (by kst_mem) ⟨_, _, [], _, _, _, _, rfl, by kst_mem, by kst_mem, .nil⟩ (by kst_mem) (.cons (fil_one u1 (by tb_start) fr9) .nil)) (.cons (fil_one u2 (by tb_start) fr9) .nil))) (.fix hx9 a6 (by assumption) (by assumption))
      · have fr9 := fr_tl (o1 := listOf #[.ref c, .int mx tk0] nd) (o2 := listOf vs.toArray nc) (o3 := listOf #[.int x tkx] nf) a8 a9 a10 a11 (fun _ h => h)
        (rename Fr h₀ L _ m => F10); (rename News h₀ L _ _ => N10)
        exact tree_fin hret F10 N10 (by k_mem) (by k_mem) (by k_mem) (by tb_start) (by assumption) (by assumption) (by assumption) (.node (h := .s (wordOf _) _) (ts := ts9) (by kst_mem) ⟨_, rfl⟩ (by kst_mem) (fil_trees a4 (by tb_start) fr9)) (.node hx9 a6 (by rw [a5]; exact wf_word hk4 hk12.hi (by assumption) (by assumption) (by assumption)) (by rw [a5]; exact manyOf_le _))
  · (rename Fr h₀ L _ m => F9); (rename News h₀ L _ _ => N9)
    refine tree_fin hret F9 N9 (by k_mem) (by k_mem) (by k_mem) (by tb_start) (by assumption) (by assumption) (by assumption) ?_ (.leaf (by assumption) (by assumption))
    exact .node (by kst_mem) ⟨_, rfl⟩ (by kst_mem) .nil
end
section
set_option maxHeartbeats 2000000
theorem kw13 : True := by
  k_with_none
  k_with "ke_room" => (first | ((have hcL9ZZ := cLine_is; simp only [units_in1, units_deeper, Around.mark_units, units_caller]; (try dsimp only [arTop]); omega)) | fail)
  k_with "k_units" => (first | (ke_room) | fail)
  k_with "units_room" => (first | (ke_room) | fail)
  k_with "k_room" => (first | (((try simp only [depth_under_make, depth_under_kw, depth_in1, depth_deeper, depth_caller]); (try dsimp only [arTop]); (try simp only [recursionLimit]); omega)) | fail)
  k_with "ktr_room" => (first | (k_room) | fail)
  k_with "ktr_member" => (first | (first | exact allLt_ne (by with_reducible assumption) | exact allLt_ne1 (by with_reducible assumption) | exact allLt_ne2 (by with_reducible assumption) | exact off3_I (by with_reducible assumption) | exact off3_C (by with_reducible assumption) | exact off3_D (by with_reducible assumption) | exact off1_D (by with_reducible assumption)) | fail)
  k_with "k_ne" => (first | ((refine neN ?_; (try dsimp only); first | with_reducible assumption | exact Ne.symm (by with_reducible assumption) | exact Nat.ne_of_lt (by with_reducible assumption) | exact Nat.ne_of_gt (by with_reducible assumption) | omega)) | fail)
  k_with "kst_all" => (first | (first | with_reducible assumption | ktr_member | exact off_app (by first | with_reducible assumption | ktr_member) | exact off_app (off_app (by first | with_reducible assumption | ktr_member)) | exact off_app (off_app (off_app (by first | with_reducible assumption | ktr_member)))) | fail)
  k_with "kst_mem" => (first | ((refine' fil_mem ?aQ9 ?bQ9; (case aQ9 => k_mem); (case bQ9 => k_all))) | fail)
  k_with "kst_p" => (first | ((refine' fil_tree ?aQ10 ?bQ10 ?cQ10; (case aQ10 => with_reducible assumption); (case bQ10 => tb_start); (case cQ10 => exact fr_tl (by with_reducible assumption) (by with_reducible assumption) (by with_reducible assumption) (by with_reducible assumption) (by tb_start)))) | fail)
  k_with "k_all" => (first | (first | exact List.forall_mem_nil _ | (refine' List.forall_mem_cons.mpr ⟨?aQ11, ?bQ11⟩; (case aQ11 => k_ne); (case bQ11 => k_all)) | kst_all) | fail)
  k_with "lcg_off" => (first | (first | exact True.intro | (refine And.intro ⟨?aQ12, ?bQ12, ?cQ12⟩ ?dQ12; (case aQ12 => k_ne); (case bQ12 => k_ne); (case cQ12 => k_ne); (case dQ12 => lcg_off)) | with_reducible assumption | exact off3_of (by first | with_reducible assumption | ktr_member) (by first | with_reducible assumption | ktr_member) (by first | with_reducible assumption | ktr_member)) | fail)
  k_with "tb_rel" => (first | (first | with_reducible assumption | (refine List.mem_cons_of_mem _ ?_; tb_rel) | (refine List.mem_append.mpr (Or.inr ?_); tb_rel) | (refine List.mem_append.mpr (Or.inl ?_); tb_rel)) | fail)
  k_with "tb_start" => (first | ((intro p9ZZ hp9ZZ; tb_rel)) | fail)
  k_with "tbn_lt" => (first | (first | exact Ext.head | (refine' Ext.tail ?aQ15; (case aQ15 => tbn_lt))) | fail)
  k_with "tbn_below" => (first | (first | (refine' Split.cons ?aQ16; (case aQ16 => tbn_below)) | exact Split.base) | fail)
  k_with "tbn_conj" => (first | (first | exact True.intro | (refine' And.intro ?aQ17 ?bQ17; (case aQ17 => first | with_reducible assumption | ktr_member); (case bQ17 => tbn_conj))) | fail)
  k_with "my ite" => ((k_closed; first | (refine' iteBT ?p9Q18 ?_; (case p9Q18 => decide)) | (refine' iteBF ?p9Q18 ?_; (case p9Q18 => decide))))
  k_with "my CompEnd" => ((k_here; k_dflt (refine' comp_end ?FQ19 ?NQ19 ?e1Q19 ?e2Q19 ?e3Q19 ?offQ19 ?_; (case FQ19 => k_asm); (case NQ19 => k_asm); (case e1Q19 => tbn_lt); (case e2Q19 => tbn_lt); (case e3Q19 => tbn_lt); (case offQ19 => lcg_off))))
  k_with "my CompSrc" => ((k_here; k_dflt (refine LCg.CompSrc.range (by rfl) (by k_asm) (by k_asm) (by assumption) (by first | decide | rfl) (by first | rfl | decide) (by first | size_fits | exact Nat.le_of_ble_eq_true rfl) ?_; intro g'ZZ; lcg_lit)))
  k_with "my CompRest" => ((with_unfolding_all first | (refine LCg.CompRest.succ ?_; intro v'ZZ I'ZZ oI'ZZ C'ZZ oC'ZZ D'ZZ m'ZZ h'ZZ tk'ZZ E'ZZ hv'ZZ hC'ZZ hx'ZZ F'ZZ N'ZZ off'ZZ ne'ZZ; (first | lcg_open hv'ZZ | (obtain ⟨t9'ZZ, hv9'ZZ⟩ := hv'ZZ; subst hv9'ZZ)); (try dsimp only [LCg.Off3] at off'ZZ); (refine let_goal ?_); intro G9ZZ; (repeat (with_reducible obtain ⟨⟨_, _, _⟩, off'ZZ⟩ := off'ZZ)); (obtain ⟨_, _, _⟩ := ne'ZZ); k_unfold; clear G9ZZ) | refine LCg.CompRest.zero ?_))
  k_with "my FinE" => (((unfold LCg.FinE); intro D'ZZ h'ZZ tk'ZZ F'ZZ N'ZZ o1'ZZ; (try dsimp only [LCg.Off1] at o1'ZZ); (refine let_goal ?_); intro G9ZZ; (repeat (with_reducible obtain ⟨_, o1'ZZ⟩ := o1'ZZ)); k_unfold; clear G9ZZ; (try simp only [List.nil_append, List.cons_append] at N'ZZ); (try dsimp only)))
  trivial
mutual
noncomputable def datT : T → Dat
  | .node h ts => .tuple [.str h.word, (match h with | .s _ k => .int k | .lam l ps r => .tuple [.int l, .tuple (ps.map .int), .int r] | .fix k => .tuple [.int k]), .tuple (datTs ts)]
noncomputable def datTs : List T → List Dat
  | [] => []
  | t :: ts => datT t :: datTs ts
end
theorem ints_dat {news : List (Addr × Obj)} : ∀ {us : List Value} {ps : List Int}, IntsAre us ps → DatAll news us (ps.map .int)
  | _, _, .nil => .nil
  | _, _, .cons n t r => .cons (.int n t) (ints_dat r)
mutual
theorem TreeIn.dat {news : List (Addr × Obj)} : ∀ (t : T) (v : Value), TreeIn news t v → DatIn news v (datT t)
  | .node h ts, v, x => by
    obtain ⟨a, p, x, t1, n1, n2, vs, rfl, h1, h2, h3, h4⟩ := x.inv
    unfold datT
    refine .tuple h1 (.cons (.str _ _) (.cons ?_ (.cons (.tuple h3 (TreesIn.dat ts vs h4)) .nil)))
    cases h with
    | s w k => obtain ⟨t, rfl⟩ := h2; exact .int _ _
    | lam l ps r =>
      obtain ⟨q, u, us, t2, t3, n3, n4, rfl, h5, h6, h7⟩ := h2
      exact .tuple h5 (.cons (.int _ _) (.cons (.tuple h6 (ints_dat h7)) (.cons (.int _ _) .nil)))
    | fix k => obtain ⟨q, t, n, rfl, h5⟩ := h2; exact .tuple h5 (.cons (.int _ _) .nil)
theorem TreesIn.dat {news : List (Addr × Obj)} : ∀ (ts : List T) (vs : List Value), TreesIn news ts vs → DatAll news vs (datTs ts)
  | [], vs, x => by rw [x.inv0]; exact .nil
  | t :: ts, vs, x => by
    obtain ⟨v, r, rfl, h1, h2⟩ := x.inv
    exact .cons (TreeIn.dat t v h1) (TreesIn.dat ts r h2)
end
theorem dOks_ints : ∀ ps : List Int, dOks (ps.map .int) = true
  | [] => rfl
  | _ :: r => by rw [List.map_cons, dOks, dOks_ints r]; rfl
theorem word_ok {c n : Nat} {h : Hd} (x : wfh c h n) : PyData.strOk h.word = true := by
  cases h with
  | s w k =>
    obtain ⟨_, h2⟩ := x
    unfold Hd.word
    rcases h2 with ⟨rfl | rfl | rfl, _⟩ | ⟨rfl | rfl, _⟩ | ⟨rfl, _⟩ | ⟨rfl, _⟩ | ⟨rfl | rfl, _⟩ <;> (dsimp only; decide +kernel)
  | lam l ps r => exact (by decide +kernel : PyData.strOk (Str.ofString "lambda") = true)
  | fix k => exact (by decide +kernel : PyData.strOk (Str.ofString "fix") = true)
mutual
theorem datT_ok {c : Nat} : ∀ t : T, t.wf c → dOk (datT t) = true
  | .node h ts, x => by
    unfold T.wf at x
    have e1 := word_ok x.1
    have e2 := datTs_ok ts x.2
    unfold datT
    cases h <;> simp [dOk, dOks, e1, e2, dOks_ints]
theorem datTs_ok {c : Nat} : ∀ ts : List T, T.wfs c ts → dOks (datTs ts) = true
  | [], _ => rfl
  | t :: ts, x => by
    unfold T.wfs at x
    rw [datTs, dOks, datT_ok t x.1, datTs_ok ts x.2]
    rfl
end
/-- of two ledgers of one heap: what is a tuple in one and stands at an address of the other stands in it -/
theorem tups_fil {h₀ h : Heap} {L : Addr} {l imm l9 : List (Addr × Obj)} (N : News h₀ L h l9) (hl : ∀ q ∈ l, q ∈ imm ∨ ∃ o, (q.1, o) ∈ l9 ∧ o.cls ≠ .type "tuple") (sub : ∀ p ∈ imm, p ∈ l9) : Tups l9 (fil l l9 ++ imm) := fun a vs n he => by
  by_cases hf : ∀ q ∈ l, q.1 ≠ a
  · exact List.mem_append_left _ (fil_mem he hf)
  · have hf := Classical.not_forall.mp hf
    obtain ⟨q, hq⟩ := hf
    have hq := Classical.not_imp.mp hq
    obtain ⟨hq, e⟩ := hq
    have e : q.1 = a := Classical.not_not.mp e
    refine List.mem_append_right _ ?_
    have g1 := (N _ he).1
    rcases hl q hq with h1 | ⟨o, h1, h2⟩
    · have g2 := (N _ (sub _ h1)).1
      rw [e, g1] at g2
      have g2 : tup vs n = q.2 := Option.some.inj g2
      have g3 : (a, tup vs n) = q := Prod.ext e.symm g2
      rw [g3]; exact h1
    · have g2 := (N _ h1).1
      rw [e, g1] at g2
      have g2 : tup vs n = o := Option.some.inj g2
      exact absurd (by rw [← g2]) h2
section
variable {prog : Program} {w : World} {A : Around} {E : Value → Shared → Prop} {s : Shared} {h₀ : Heap} {L : Addr} {m : Str → Option Value} {news : List (Addr × Obj)}
theorem ne_unit {p e : Addr} {vs : List Value} {ts : List T} {n1 n2 c : Nat} {Q : Value → Shared → Prop} (N : News h₀ L s.heap news) (h1 : (p, tup vs n1) ∈ news) (h2 : (e, tup [] n2) ∈ news) {imm : List (Addr × Obj)} (sub : ∀ p ∈ imm, p ∈ news) (ht : TreesIn imm ts vs) (hw : T.wfs c ts) (hu : A.units + 1 < cLine)
    (h : Q (.bool (!ts.isEmpty)) s) : wpAny (model prog w) A (compareOp .NotEq (.ref p) (.ref e)) Q E s := by
  refine ne_dat N (.tuple h1 (TreesIn.dat ts vs (.mono sub _ _ ht))) (.tuple h2 .nil) (by unfold dOk; exact datTs_ok ts hw) rfl (by rw [kqdP, kqdPs, PyData.depth, PyData.depthAll]; omega) ?_
  have e : PyData.eqv (kqdP (.tuple (datTs ts))) (kqdP (.tuple [])) = ts.isEmpty := by
    rw [kqdP, kqdP, kqdPs]
    cases ts with
    | nil => rfl
    | cons t ts => rw [datTs, kqdPs]; rfl
  rw [e]
  exact h
/-- two tuples joined: one of them where the other is empty -/
theorem add_any {t b : Addr} {vs ws : List Value} {n1 n2 : Nat} {Q : Value → Shared → Prop} (F : Fr h₀ L s.heap m) (N : News h₀ L s.heap news) (h1 : (t, tup vs n1) ∈ news) (h2 : (b, tup ws n2) ∈ news) (hz : vs.length + ws.length ≤ 1000)
    (h : ∀ D n h', Fr h₀ L h' m → News h₀ L h' ((D, tup (vs ++ ws) n) :: news) → Q (.ref D) { s with heap := h' }) : wpAny (model prog w) A (binaryOp .Add (.ref t) (.ref b)) Q E s := by
  have i1 := News.isTup N h1
  have i2 := News.isTup N h2
  by_cases e1 : vs = []
  · subst e1
    refine kde_addT0 F N i1 i2 rfl (by simp only [List.length_nil] at hz ⊢; omega) ?_
    exact h b n2 s.heap F (news_cons N h2 N)
  · by_cases e2 : ws = []
    · subst e2
      refine kde_addT1 F N i1 i2 e1 rfl (by simp only [List.length_nil] at hz ⊢; omega) ?_
      have h1' : (t, tup (vs ++ []) n1) ∈ news := by rw [List.append_nil]; exact h1
      exact h t n1 s.heap F (news_cons N h1' N)
    · refine kde_addT F N i1 i2 e1 e2 (Nat.le_trans hz (by decide)) rfl ?_
      intro D h' F' N' _
      exact h D 0 h' F' N'
end
theorem fm_range {α : Type} : ∀ {us : List α} {f : Nat → Option α}, (∀ k (hk : k < us.length), f k = some us[k]) → (List.range us.length).filterMap f = us
  | [], _, _ => rfl
  | u :: us, f, h => by
    rw [List.length_cons, List.range_succ_eq_map, List.filterMap_cons, h 0 (Nat.zero_lt_succ _), List.filterMap_map]
    have ih := fm_range (us := us) (f := f ∘ Nat.succ) fun k hk => h (k + 1) (Nat.succ_lt_succ hk)
    rw [ih]
    rfl
theorem range_take {va vb : List Value} {v : Value} : ((List.range va.length).filterMap fun (k : Nat) => (va ++ v :: vb)[((0 : Int) + (k : Int) * 1).toNat]?) = va :=
  fm_range fun k hk => by
    have e : ((0 : Int) + (k : Int) * 1).toNat = k := by omega
    rw [e, List.getElem?_append_left hk, List.getElem?_eq_getElem hk]
theorem range_drop {va vb : List Value} {v : Value} : ((List.range ((va ++ v :: vb).length - (va.length + 1))).filterMap fun (k : Nat) => (va ++ v :: vb)[(((va.length : Int) + 1) + (k : Int) * 1).toNat]?) = vb := by
  have e : (va ++ v :: vb).length - (va.length + 1) = vb.length := by rw [List.length_append, List.length_cons]; omega
  rw [e]
  refine fm_range fun k hk => ?_
  have e : (((va.length : Int) + 1) + (k : Int) * 1).toNat = va.length + (k + 1) := by omega
  rw [e, List.getElem?_append_right (Nat.le_add_right _ _), Nat.add_sub_cancel_left, List.getElem?_cons_succ, List.getElem?_eq_getElem hk]
theorem sl_from1 {prog : Program} {w : World} {a n : Nat} {u : Tok} (ha : a + 1 ≤ n) : ∀ {s : Shared} {sl : Addr} {A : Around} {E : Value → Shared → Prop} {Q : Int × Int × Nat → Shared → Prop}, s.heap.IsSliceOf sl (.int ((a : Int) + 1) u) .none .none → Q ((a : Int) + 1, 1, n - (a + 1)) s → wpAny (model prog w) A (Builtin.Slice.sliceApplied (.ref sl) (pure (n : Int))) Q E s :=
  fun hs h => sl_from (a := a + 1) ha hs h
theorem app_le {va vb : List Value} {v : Value} : va.length ≤ (va ++ v :: vb).length := by rw [List.length_append]; exact Nat.le_add_right _ _
theorem app_lt {va vb : List Value} {v : Value} : va.length + 1 ≤ (va ++ v :: vb).length := by rw [List.length_append, List.length_cons]; omega
theorem no_take {va vb : List Value} {v : Value} : ((0 : Int) == 0 && (1 : Int) == 1 && va.length == (va ++ v :: vb).length) = false := by
  have : va.length ≠ (va ++ v :: vb).length := by rw [List.length_append, List.length_cons]; omega
  rw [beq_eq_false_iff_ne.mpr this]; rfl
theorem no_drop {va vb : List Value} {v : Value} : (((va.length : Int) + 1) == 0 && (1 : Int) == 1 && ((va ++ v :: vb).length - (va.length + 1)) == (va ++ v :: vb).length) = false := by
  have : ((va.length : Int) + 1) ≠ 0 := by omega
  rw [beq_eq_false_iff_ne.mpr this]; rfl
theorem nth_app {va vb : List Value} {v : Value} : nthV (va ++ v :: vb) ((va.length : Int)).toNat = some v := by
  rw [nthV_eq, Int.toNat_natCast, List.getElem?_append_right (Nat.le_refl _), Nat.sub_self]; rfl
theorem TreesIn.pick {news : List (Addr × Obj)} : ∀ {ts : List T} {vs : List Value}, TreesIn news ts vs → ∀ n, n < vs.length → ∃ a t b va v vb, ts = a ++ t :: b ∧ vs = va ++ v :: vb ∧ va.length = n ∧ TreesIn news a va ∧ TreeIn news t v ∧ TreesIn news b vb
  | [], vs, x, n, hn => by rw [x.inv0] at hn; exact absurd hn (Nat.not_lt_zero _)
  | t :: ts, vs, x, n, hn => by
    obtain ⟨v, r, rfl, h1, h2⟩ := x.inv
    cases n with
    | zero => exact ⟨[], t, ts, [], v, r, rfl, rfl, rfl, .nil, h1, h2⟩
    | succ n =>
      obtain ⟨a, t', b, va, v', vb, rfl, rfl, rfl, k1, k2, k3⟩ := h2.pick n (Nat.lt_of_succ_lt_succ hn)
      exact ⟨t :: a, t', b, v :: va, v', vb, rfl, rfl, rfl, .cons h1 k1, k2, k3⟩
theorem pickI {news : List (Addr × Obj)} {ts : List T} {vs : List Value} {k : Int} (x : TreesIn news ts vs) (h : InW (vs.length : Nat) k) : ∃ a t b va v vb, ts = a ++ t :: b ∧ vs = va ++ v :: vb ∧ k = (va.length : Nat) ∧ TreesIn news a va ∧ TreeIn news t v ∧ TreesIn news b vb := by
  obtain ⟨h0, h1⟩ := h
  obtain ⟨a, t, b, va, v, vb, e1, e2, e3, k1, k2, k3⟩ := x.pick k.toNat (by omega)
  exact ⟨a, t, b, va, v, vb, e1, e2, by omega, k1, k2, k3⟩
theorem TreesIn.put {news : List (Addr × Obj)} {t : T} {v : Value} {b : List T} {vb : List Value} (h1 : TreeIn news t v) (h2 : TreesIn news b vb) : ∀ {a : List T} {va : List Value}, TreesIn news a va → TreesIn news (a ++ t :: b) (va ++ [v] ++ vb)
  | [], va, x => by rw [x.inv0]; exact .cons h1 h2
  | t' :: a, va, x => by
    obtain ⟨v', r, rfl, k1, k2⟩ := x.inv
    exact .cons k1 (TreesIn.put h1 h2 k2)
theorem wfs_app {c : Nat} : ∀ {a b : List T}, T.wfs c (a ++ b) ↔ T.wfs c a ∧ T.wfs c b
  | [], b => by simp [T.wfs]
  | t :: a, b => by rw [List.cons_append, T.wfs, T.wfs, wfs_app, and_assoc]
theorem depths_app : ∀ {a b : List T}, T.depths (a ++ b) = max (T.depths a) (T.depths b)
  | [], b => by simp [T.depths]
  | t :: a, b => by rw [List.cons_append, T.depths, T.depths, depths_app, Nat.max_assoc]
theorem sizes_app : ∀ {a b : List T}, T.sizes (a ++ b) = T.sizes a + T.sizes b
  | [], b => by simp [T.sizes]
  | t :: a, b => by rw [List.cons_append, T.sizes, T.sizes, sizes_app, Nat.add_assoc]
theorem put_wf {h : Hd} {a b : List T} {t t' : T} (h1 : wfh 2 h (a ++ t :: b).length) (h2 : T.wfs 2 (a ++ t :: b)) (h3 : t'.wf 3) : (T.node h (a ++ t' :: b)).wf 3 := by
  rw [wfs_app, T.wfs] at h2
  unfold T.wf
  rw [wfs_app, T.wfs]
  refine ⟨?_, T.wfs_up _ h2.1, h3, T.wfs_up _ h2.2.2⟩
  have e : (a ++ t' :: b).length = (a ++ t :: b).length := by simp
  rw [e]
  exact wfh_up h1
theorem put_depth {h : Hd} {a b : List T} {t t' : T} (h1 : t'.depth ≤ t.depth + 1) : (T.node h (a ++ t' :: b)).depth ≤ (T.node h (a ++ t :: b)).depth + 1 := by
  simp only [T.depth, depths_app, T.depths]; omega
theorem put_size {h : Hd} {a b : List T} {t t' : T} (h1 : t'.size ≤ t.size + 1) : (T.node h (a ++ t' :: b)).size ≤ (T.node h (a ++ t :: b)).size + 1 := by
  simp only [T.size, sizes_app, T.sizes]; omega
theorem pick_depth {h : Hd} {a b : List T} {t : T} : t.depth + 1 ≤ (T.node h (a ++ t :: b)).depth := by
  simp only [T.depth, depths_app, T.depths]; omega
theorem wfh_len {h : Hd} {n : Nat} (x : wfh 2 h n) : n ≤ 3 := by
  cases h with
  | s w k => obtain ⟨_, h2⟩ := x; omega
  | lam l ps r => have := x.2.2.2.2; omega
  | fix k => have := x.2; omega
theorem len_many {news : List (Addr × Obj)} {h : Hd} {ts : List T} {vs : List Value} (x : TreesIn news ts vs) (hw : wfh 2 h ts.length) (he : ts.isEmpty = false) : 0 < ((vs.length : Nat) : Int) ∧ ((vs.length : Nat) : Int) ≤ 1000 := by
  have e := x.length
  have := wfh_len hw
  cases ts with
  | nil => cases he
  | cons t ts => simp only [List.length_cons] at e this; omega
section
variable {prog : Program} {w : World} {A : Around} {E : Value → Shared → Prop} {s : Shared} {h₀ : Heap} {L : Addr} {m : Str → Option Value} {news : List (Addr × Obj)}
theorem len_tup {t : Addr} {vs : List Value} {n : Nat} {Q : Value → Shared → Prop} (N : News h₀ L s.heap news) (hm : (t, tup vs n) ∈ news) (hz : vs.length ≤ 1000) (h : ∀ tk tk', Q (.int ((vs.length : Nat) : Int) tk) { s with toks := tk' }) :
    wpAny (model prog w) A (call (.builtin "len") [.ref t]) Q E s := by
  have e : vs.toArray.size = vs.length := List.size_toArray ..
  refine PyProof.Rows.len_tuple (News.isTup N hm) (by rw [e]; omega) ?_
  rw [e]
  exact h _ _
end
theorem va_le {va vb : List Value} {v : Value} (h : (va ++ v :: vb).length ≤ 3) : va.length ≤ 1000 := by rw [List.length_append, List.length_cons] at h; omega
theorem vb_le {va vb : List Value} {v : Value} (h : (va ++ v :: vb).length ≤ 3) : vb.length ≤ 1000 := by rw [List.length_append, List.length_cons] at h; omega
theorem z1_le {va vb : List Value} {v x : Value} (h : (va ++ v :: vb).length ≤ 3) : va.length + [x].length ≤ 1000 := by rw [List.length_append, List.length_cons] at h; rw [List.length_singleton]; omega
theorem z2_le {va vb : List Value} {v x : Value} (h : (va ++ v :: vb).length ≤ 3) : (va ++ [x]).length + vb.length ≤ 1000 := by rw [List.length_append, List.length_cons] at h; rw [List.length_append, List.length_singleton]; omega
theorem ix_lt {va vb : List Value} {v : Value} (h : (va ++ v :: vb).length ≤ 3) : ((va.length : Nat) : Int) < 2 ^ 63 := by have := va_le h; omega
theorem ih_mid {P : T → Prop} {a b : List T} {t : T} (h : ∀ t' ∈ a ++ t :: b, P t') : P t := h t (List.mem_append_right _ (.head _))
theorem wfs_mid {c : Nat} {a b : List T} {t : T} (h : T.wfs c (a ++ t :: b)) : t.wf c := by rw [wfs_app, T.wfs] at h; exact h.2.1
theorem room_mid {dp : Nat} {h : Hd} {a b : List T} {t : T} (x : dp + ((T.node h (a ++ t :: b)).depth + 10) < 1000) : dp + 1 + (t.depth + 10) < 1000 := by have := pick_depth (h := h) (a := a) (b := b) (t := t); omega
theorem un_mid {un u : Nat} {h : Hd} {a b : List T} {t : T} (x : un + (20 * (T.node h (a ++ t :: b)).depth + 400) < 9900) (k : u ≤ un + 20) : u + (20 * t.depth + 400) < 9900 := by have := pick_depth (h := h) (a := a) (b := b) (t := t); omega
/-- another mark -/
noncomputable def Mk3 : Prop := True
theorem Mk3.mk : Mk3 := trivial
theorem w_ne {c n : Nat} {w : Str} {k : Int} (h : wfh c (.s w k) n) : (w == ("lambda" : Str)) = false ∧ (w == ("fix" : Str)) = false := by
  obtain ⟨_, h2⟩ := h
  rcases h2 with ⟨rfl | rfl | rfl, _⟩ | ⟨rfl | rfl, _⟩ | ⟨rfl, _⟩ | ⟨rfl, _⟩ | ⟨rfl | rfl, _⟩ <;> exact ⟨by decide +kernel, by decide +kernel⟩
theorem put_in {l9 X imm : List (Addr × Obj)} {a b : List T} {va vb : List Value} {t : T} {r : Value} (ht : TreeIn X t r) (h1 : TreesIn imm a va) (h2 : TreesIn imm b vb) (sX : ∀ p ∈ X, p ∈ l9) (sI : ∀ p ∈ imm, p ∈ l9) : TreesIn l9 (a ++ t :: b) (va ++ [r] ++ vb) :=
  TreesIn.put (.mono sX _ _ ht) (.mono sI _ _ h2) (.mono sI _ _ h1)
theorem no_rev {n m : Nat} : (((n : Int) - 1) == 0 && (-1 : Int) == 1 && m == n) = false := by
  rw [show ((-1 : Int) == 1) = false from rfl, Bool.and_false]; rfl
theorem range_rev {vs : List Value} : ((List.range vs.length).filterMap fun (k : Nat) => vs[(((vs.length : Nat) : Int) - 1 + (k : Int) * (-1)).toNat]?) = vs.reverse := by
  have h : ∀ k (hk : k < vs.reverse.length), vs[(((vs.length : Nat) : Int) - 1 + (k : Int) * (-1)).toNat]? = some vs.reverse[k] := fun k hk => by
    have e : (((vs.length : Nat) : Int) - 1 + (k : Int) * (-1)).toNat = vs.length - 1 - k := by omega
    rw [e, ← List.getElem?_eq_getElem hk, List.getElem?_reverse (by simpa using hk)]
  have := fm_range h
  rwa [List.length_reverse] at this
theorem rev_le {vs : List Value} (h : vs.length ≤ 3) : vs.reverse.length ≤ 1000 := by rw [List.length_reverse]; omega
theorem in_strs {prog : Program} {w : World} {A : Around} {E : Value → Shared → Prop} {s : Shared} {h₀ : Heap} {L : Addr} {news : List (Addr × Obj)} {t : Addr} {vs : List Value} {n : Nat} {ys : List Str} {x : Str} {u : Tok} {Q : Value → Shared → Prop} (N : News h₀ L s.heap news) (hm : (t, tup vs n) ∈ news) (hi : StrsAre vs ys)
    (h : Q (.bool (ys.any (· == x))) s) : wpAny (model prog w) A (compareOp .In (.str x u) (.ref t)) Q E s := in_tuple_strs (News.isTup N hm) hi h
theorem z3_le {vs : List Value} {x : Value} (h : vs.length ≤ 3) : vs.length + [x].length ≤ 1000 := by rw [List.length_singleton]; omega
theorem w_ne' {c n : Nat} {w : Str} {k : Int} (h : wfh c (.s w k) n) : (w == Str.ofString "lambda") = false ∧ (w == Str.ofString "fix") = false := w_ne h
theorem item4 {prog : Program} {w : World} {A : Around} {E : Value → Shared → Prop} {s : Shared} {h₀ : Heap} {L : Addr} {news : List (Addr × Obj)} {value slice : PySem.Expr} {l : Addr} {v0 v1 v2 v3 : Value} {n : Nat} {k : Int} {u : Tok} {Q : Value → Shared → Prop} (N : News h₀ L s.heap news) (hm : (l, listOf #[v0, v1, v2, v3] n) ∈ news) (h0 : InW 4 k)
    (h : ∀ v, (v = v0 ∨ v = v1 ∨ v = v2 ∨ v = v3) → Q v s)
    (hs : subscripted slice false (.ref l) (.int k u) = operate [.ref l, .int k u] (getItem (.ref l) (.int k u))) : wpAny (model prog w) A (subscriptTail value slice (.ref l) (.int k u)) Q E s := by
  obtain ⟨a, b⟩ := h0
  have hk : k = 0 ∨ k = 1 ∨ k = 2 ∨ k = 3 := by omega
  rcases hk with rfl | rfl | rfl | rfl
  · exact item_lst N hm (by decide) (by decide) rfl (h _ (.inl rfl)) hs
  · exact item_lst N hm (by decide) (by decide) rfl (h _ (.inr (.inl rfl))) hs
  · exact item_lst N hm (by decide) (by decide) rfl (h _ (.inr (.inr (.inl rfl)))) hs
  · exact item_lst N hm (by decide) (by decide) rfl (h _ (.inr (.inr (.inr rfl)))) hs
theorem in3_mod {k : Int} : in3 (k.fmod 3) := ⟨fmod_lo _ (by decide), fmod_hi _ (by decide)⟩
theorem add_wf {w : Str} {k : Int} {ts : List T} (h : wfh 2 (.s w k) ts.length) (hw : T.wfs 2 ts) (e : (Str.ofString "call" == w || (Str.ofString "seq" == w || (Str.ofString "prim" == w || false))) = true) : (T.node (.s w k) (ts ++ [.node (.s "const" 0) []])).wf 3 := by
  unfold T.wf
  refine ⟨?_, wfs_snoc (T.wfs_up _ hw) ?_⟩
  · rw [List.length_append, List.length_singleton]
    simp only [Bool.or_eq_true, beq_iff_eq, Bool.or_false] at e
    obtain ⟨h1, h2⟩ := h
    refine ⟨h1, ?_⟩
    have hn : ts.length ≤ 2 := by
      rcases e with e | e | e <;> subst e <;> rcases h2 with ⟨x, _⟩ | ⟨x, _⟩ | ⟨x, _⟩ | ⟨x, _, y⟩ | ⟨x, y⟩ <;> first | exact y | (exfalso; revert x; decide +kernel)
    rcases e with e | e | e
    · exact .inr (.inr (.inr (.inl ⟨e.symm, Nat.succ_le_succ (Nat.zero_le _), Nat.succ_le_succ hn⟩)))
    · exact .inr (.inr (.inr (.inr ⟨.inl e.symm, Nat.succ_le_succ hn⟩)))
    · exact .inr (.inr (.inr (.inr ⟨.inr e.symm, Nat.succ_le_succ hn⟩)))
  · unfold T.wf
    exact ⟨⟨⟨by decide, by decide⟩, .inl ⟨.inl rfl, rfl⟩⟩, by unfold T.wfs; trivial⟩
theorem depths_one {ts : List T} : T.depths (ts ++ [.node (.s "const" 0) []]) ≤ T.depths ts + 1 := by
  rw [depths_snoc, T.depth, T.depths]; omega
theorem sizes_one {ts : List T} : T.sizes (ts ++ [.node (.s "const" 0) []]) ≤ T.sizes ts + 1 := by
  rw [sizes_snoc, T.size, T.sizes]; omega
theorem add_depth {h : Hd} {ts : List T} : (T.node h (ts ++ [.node (.s "const" 0) []])).depth ≤ (T.node h ts).depth + 1 := by
  rw [T.depth, T.depth]; exact Nat.succ_le_succ depths_one
theorem add_size {h : Hd} {ts : List T} : (T.node h (ts ++ [.node (.s "const" 0) []])).size ≤ (T.node h ts).size + 1 := by
  rw [T.size, T.size]; exact Nat.succ_le_succ sizes_one
theorem TreesIn.rev {news : List (Addr × Obj)} : ∀ {ts : List T} {vs : List Value}, TreesIn news ts vs → TreesIn news ts.reverse vs.reverse
  | [], vs, x => by rw [x.inv0]; exact .nil
  | t :: ts, vs, x => by
    obtain ⟨v, r, rfl, h1, h2⟩ := x.inv
    rw [List.reverse_cons, List.reverse_cons]
    exact (TreesIn.rev h2).snoc h1
theorem rev_facts : ∀ {ts : List T}, (∀ c, T.wfs c ts → T.wfs c ts.reverse) ∧ T.depths ts.reverse = T.depths ts ∧ T.sizes ts.reverse = T.sizes ts
  | [] => ⟨fun _ h => h, rfl, rfl⟩
  | t :: ts => by
    obtain ⟨h1, h2, h3⟩ := rev_facts (ts := ts)
    rw [List.reverse_cons]
    refine ⟨fun c h => ?_, ?_, ?_⟩
    · unfold T.wfs at h; exact wfs_snoc (h1 c h.2) h.1
    · rw [depths_snoc, h2, T.depths, Nat.max_comm]
    · rw [sizes_snoc, h3, T.sizes, Nat.add_comm]
theorem rev_wf {h : Hd} {ts : List T} (h1 : wfh 2 h ts.length) (h2 : T.wfs 2 ts) : (T.node h ts.reverse).wf 3 := by
  unfold T.wf
  rw [List.length_reverse]
  exact ⟨wfh_up h1, T.wfs_up _ (rev_facts.1 2 h2)⟩
theorem rev_depth {h : Hd} {ts : List T} : (T.node h ts.reverse).depth ≤ (T.node h ts).depth + 1 := by
  rw [T.depth, T.depth, rev_facts.2.1]; exact Nat.le_succ _
theorem rev_size {h : Hd} {ts : List T} : (T.node h ts.reverse).size ≤ (T.node h ts).size + 1 := by
  rw [T.size, T.size, rev_facts.2.2]; exact Nat.le_succ _
theorem hd_wf {h' : Hd} {ts : List T} (h1 : wfh 3 h' ts.length) (h2 : T.wfs 2 ts) : (T.node h' ts).wf 3 := by
  unfold T.wf
  exact ⟨h1, T.wfs_up _ h2⟩
theorem mod_wf {w : Str} {k k' : Int} {n : Nat} (h : wfh 2 (.s w k) n) : wfh 3 (.s w (k'.fmod 3)) n := ⟨in3_mod, (wfh_up h).2⟩
theorem lam1_wf {l r : Int} {ps : List Int} {n : Nat} (h : wfh 2 (.lam l ps r) n) : wfh 3 (.lam l (ps ++ [2]) r) n := by
  obtain ⟨h1, h2, h3, h4, h5⟩ := h
  refine ⟨h1, fun x hx => ?_, by rw [List.length_append]; exact Nat.succ_le_succ h3, ⟨.inr rfl, h4.2⟩, h5⟩
  rcases List.mem_append.mp hx with hx | hx
  · exact h2 x hx
  · rw [List.mem_singleton.mp hx]; exact ⟨by decide, by decide⟩
theorem lam2_wf {l r : Int} {ps : List Int} {n : Nat} (h : wfh 2 (.lam l ps r) n) : wfh 3 (.lam l ps (-1 - r)) n := by
  obtain ⟨h1, h2, h3, h4, h5⟩ := h
  exact ⟨h1, h2, Nat.le_succ_of_le h3, ⟨.inr rfl, by omega, by omega⟩, h5⟩
theorem lam3_wf {l r : Int} {ps : List Int} {n : Nat} (h : wfh 2 (.lam l ps r) n) : wfh 3 (.lam 1 ps r) n := ⟨⟨by decide, by decide⟩, (wfh_up h).2⟩
theorem wfh3_len {h : Hd} {n : Nat} (x : wfh 3 h n) : n ≤ 3 := by
  cases h with
  | s w k => obtain ⟨_, h2⟩ := x; omega
  | lam l ps r => have := x.2.2.2.2; omega
  | fix k => have := x.2; omega
end
section
set_option maxHeartbeats 6000000
theorem kw15 : True := by
  k_with_none
  k_with "ke_room" => (first | ((have hcL9ZZ := cLine_is; simp only [units_in1, units_deeper, Around.mark_units, units_caller]; (try dsimp only [arTop]); omega)) | fail)
  k_with "k_units" => (first | (ke_room) | fail)
  k_with "units_room" => (first | (ke_room) | fail)
  k_with "k_room" => (first | (((try simp only [depth_under_make, depth_under_kw, depth_in1, depth_deeper, depth_caller]); (try dsimp only [arTop]); (try simp only [recursionLimit]); omega)) | fail)
  k_with "ktr_room" => (first | (k_room) | fail)
  k_with "ktr_member" => (first | (first | exact allLt_ne (by with_reducible assumption) | exact allLt_ne1 (by with_reducible assumption) | exact allLt_ne2 (by with_reducible assumption) | exact off3_I (by with_reducible assumption) | exact off3_C (by with_reducible assumption) | exact off3_D (by with_reducible assumption) | exact off1_D (by with_reducible assumption)) | fail)
  k_with "k_ne" => (first | ((refine neN ?_; (try dsimp only); first | with_reducible assumption | exact Ne.symm (by with_reducible assumption) | exact Nat.ne_of_lt (by with_reducible assumption) | exact Nat.ne_of_gt (by with_reducible assumption) | omega)) | fail)
  k_with "kst_all" => (first | (first | with_reducible assumption | ktr_member | exact off_app (by first | with_reducible assumption | ktr_member) | exact off_app (off_app (by first | with_reducible assumption | ktr_member)) | exact off_app (off_app (off_app (by first | with_reducible assumption | ktr_member)))) | fail)
  k_with "kst_mem" => (first | ((refine' fil_mem ?aQ9 ?bQ9; (case aQ9 => k_mem); (case bQ9 => k_all))) | fail)
  k_with "kst_p" => (first | ((refine' fil_tree ?aQ10 ?bQ10 ?cQ10; (case aQ10 => with_reducible assumption); (case bQ10 => tb_start); (case cQ10 => exact fr_tl (by with_reducible assumption) (by with_reducible assumption) (by with_reducible assumption) (by with_reducible assumption) (by tb_start)))) | fail)
  k_with "k_all" => (first | (first | exact List.forall_mem_nil _ | (refine' List.forall_mem_cons.mpr ⟨?aQ11, ?bQ11⟩; (case aQ11 => k_ne); (case bQ11 => k_all)) | kst_all) | fail)
  k_with "lcg_off" => (first | (first | exact True.intro | (refine And.intro ⟨?aQ12, ?bQ12, ?cQ12⟩ ?dQ12; (case aQ12 => k_ne); (case bQ12 => k_ne); (case cQ12 => k_ne); (case dQ12 => lcg_off)) | with_reducible assumption | exact off3_of (by first | with_reducible assumption | ktr_member) (by first | with_reducible assumption | ktr_member) (by first | with_reducible assumption | ktr_member)) | fail)
  k_with "tb_rel" => (first | (first | with_reducible assumption | (refine List.mem_cons_of_mem _ ?_; tb_rel) | (refine List.mem_append.mpr (Or.inr ?_); tb_rel) | (refine List.mem_append.mpr (Or.inl ?_); tb_rel)) | fail)
  k_with "tb_start" => (first | ((intro p9ZZ hp9ZZ; tb_rel)) | fail)
  k_with "tbn_lt" => (first | (first | exact Ext.head | (refine' Ext.tail ?aQ15; (case aQ15 => tbn_lt))) | fail)
  k_with "tbn_below" => (first | (first | (refine' Split.cons ?aQ16; (case aQ16 => tbn_below)) | exact Split.base) | fail)
  k_with "tbn_conj" => (first | (first | exact True.intro | (refine' And.intro ?aQ17 ?bQ17; (case aQ17 => first | with_reducible assumption | ktr_member); (case bQ17 => tbn_conj))) | fail)
  k_with "my ite" => ((k_closed; first | (refine' iteBT ?p9Q18 ?_; (case p9Q18 => decide)) | (refine' iteBF ?p9Q18 ?_; (case p9Q18 => decide))))
  k_with "my CompEnd" => ((k_here; k_dflt (refine' comp_end ?FQ19 ?NQ19 ?e1Q19 ?e2Q19 ?e3Q19 ?offQ19 ?_; (case FQ19 => k_asm); (case NQ19 => k_asm); (case e1Q19 => tbn_lt); (case e2Q19 => tbn_lt); (case e3Q19 => tbn_lt); (case offQ19 => lcg_off))))
  k_with "my CompSrc" => ((k_here; k_dflt (refine LCg.CompSrc.range (by rfl) (by k_asm) (by k_asm) (by assumption) (by first | decide | rfl) (by first | rfl | decide) (by first | size_fits | exact Nat.le_of_ble_eq_true rfl) ?_; intro g'ZZ; lcg_lit)))
  k_with "my CompRest" => ((with_unfolding_all first | (refine LCg.CompRest.succ ?_; intro v'ZZ I'ZZ oI'ZZ C'ZZ oC'ZZ D'ZZ m'ZZ h'ZZ tk'ZZ E'ZZ hv'ZZ hC'ZZ hx'ZZ F'ZZ N'ZZ off'ZZ ne'ZZ; (first | lcg_open hv'ZZ | (obtain ⟨t9'ZZ, hv9'ZZ⟩ := hv'ZZ; subst hv9'ZZ)); (try dsimp only [LCg.Off3] at off'ZZ); (refine let_goal ?_); intro G9ZZ; (repeat (with_reducible obtain ⟨⟨_, _, _⟩, off'ZZ⟩ := off'ZZ)); (obtain ⟨_, _, _⟩ := ne'ZZ); k_unfold; clear G9ZZ) | refine LCg.CompRest.zero ?_))
  k_with "my FinE" => (((unfold LCg.FinE); intro D'ZZ h'ZZ tk'ZZ F'ZZ N'ZZ o1'ZZ; (try dsimp only [LCg.Off1] at o1'ZZ); (refine let_goal ?_); intro G9ZZ; (repeat (with_reducible obtain ⟨_, o1'ZZ⟩ := o1'ZZ)); k_unfold; clear G9ZZ; (try simp only [List.nil_append, List.cons_append] at N'ZZ); (try dsimp only)))
  trivial
/-- what the walk of _law_spoilt leaves -/
noncomputable def SpPost (d c : Nat) (t : T) (imm l : List (Addr × Obj)) (r : Value) (news' : List (Addr × Obj)) : Prop :=
  ∃ t' cells vs nd nc mx tk tl, news' = (d, listOf #[.ref c, .int mx tk] nd) :: (c, listOf vs.toArray nc) :: (tl ++ imm) ∧ IntsAre vs cells ∧ Cells cells ∧ (0 ≤ mx ∧ mx < 2147483647) ∧ (∀ p ∈ tl, ∀ q ∈ l, q.1 ≠ p.1) ∧ TreeIn (tl ++ imm) t' r ∧ t'.wf 3 ∧ t'.depth ≤ t.depth + 1 ∧ t'.size ≤ t.size + 1
noncomputable def SpSpec (prog : Program) (w : World) (t : T) : Prop :=
  ∀ (d c : Nat) (cells : List Int) (vs : List Value) (nd nc : Nat) (mx : Int) (tk0 : Tok) (v : Value) (imm : List (Addr × Obj)),
   IntsAre vs cells → Cells cells → (0 ≤ mx ∧ mx < 2147483647) → d ≠ c → (∀ p ∈ imm, p.1 ≠ d) → (∀ p ∈ imm, p.1 ≠ c) → TreeIn imm t v → t.wf 2 →
   CallsTo prog w (hd.heap_1 w.params) 812 [.ref d, v] ((d, listOf #[.ref c, .int mx tk0] nd) :: (c, listOf vs.toArray nc) :: imm) (t.depth + 10) (20 * t.depth + 400)
     (SpPost d c t imm ((d, listOf #[.ref c, .int mx tk0] nd) :: (c, listOf vs.toArray nc) :: imm))
section
variable {prog : Program} {w : World} {p : Program} {loose : List Str} {mean : ExcName → Option Value} {mg mb : Str → Option Value} {dp un : Nat} {gd : Option (List Code)} {env : Env} {outer : List Env} {A₀ : Around} {base h₀ : Heap} {L : Addr} {m : Str → Option Value} {s : Shared} {Q E : Value → Shared → Prop} {l l1 rest imm : List (Addr × Obj)}
theorem spoilt_use {d c : Nat} {cells : List Int} {vs : List Value} {nd nc : Nat} {mx : Int} {tk0 : Tok} {v : Value} {t : T} (S : SpSpec prog w t)
    (hf : env.frame = some L) (hk : env.scope.kind = .function) (B : Below A₀ base outer h₀) (F : Fr h₀ L s.heap m) (X : (hd.heap_1 w.params).In h₀) (N : News h₀ L s.heap l) (T : Top p loose mean mg mb h₀)
    (e1 : Ext (d, listOf #[.ref c, .int mx tk0] nd) l l1) (e2 : Ext (c, listOf vs.toArray nc) l1 rest)
    (hi : IntsAre vs cells) (hc : Cells cells) (hm : 0 ≤ mx ∧ mx < 2147483647) (hdc : d ≠ c) (hnd : ∀ p ∈ rest, p.1 ≠ d) (hnc : ∀ p ∈ rest, p.1 ≠ c) (sub : ∀ p ∈ imm, p ∈ rest) (ht : TreeIn imm t v) (hw : t.wf 2)
    (hd1 : dp + (t.depth + 10) < 1000) (hu1 : un + (20 * t.depth + 400) < 9900)
    (ret : ∀ r t' cells vs nd nc mx tk tl h' tk', Fr h₀ L h' m → News h₀ L h' ((d, listOf #[.ref c, .int mx tk] nd) :: (c, listOf vs.toArray nc) :: (tl ++ rest)) → IntsAre vs cells → Cells cells → (0 ≤ mx ∧ mx < 2147483647) →
      TreeIn (tl ++ rest) t' r → t'.wf 3 → t'.depth ≤ t.depth + 1 → t'.size ≤ t.size + 1 → Q r { s with heap := h', toks := tk' }) :
    wpAny (model prog w) (arTop dp un gd env outer) (call (.ref 812) [.ref d, v]) Q E s := by
  have N1 : News h₀ L s.heap l1 := fun p hp => e1.news N p (.tail _ hp)
  refine S d c cells vs nd nc mx tk0 v rest hi hc hm hdc hnd hnc (.mono sub _ _ ht) hw _ _ _ _ _ _ _ _ _ _ _ _ _ _ _ _ _ _ hf hk B F X ?_ T hd1 hu1 ?_
  · exact news_cons N ((e1.mem _).mpr (.inl rfl)) (e2.news N1)
  · rintro r news' h' tk' F' N' ⟨t', cells, vs', nd', nc', mx', tk, tl, rfl, h1, h2, h3, h4, h5, h6, h7, h8⟩
    exact ret r t' cells vs' nd' nc' mx' tk tl h' tk' F' N' h1 h2 h3 h5 h6 h7 h8
theorem sp_fin {d c : Nat} {cells : List Int} {vs : List Value} {nd nc : Nat} {mx : Int} {tk : Tok} {o1 o2 : Obj} {l9 : List (Addr × Obj)} {r : Value} {t t' : T} {h' : Heap} {tk' : Nat}
    (hret : ∀ r news' h' tk', Fr h₀ L h' m → News h₀ L h' news' → SpPost d c t imm ((d, o1) :: (c, o2) :: imm) r news' → Q r { s with heap := h', toks := tk' }) (F : Fr h₀ L h' m) (N : News h₀ L h' l9)
    (m1 : (d, listOf #[.ref c, .int mx tk] nd) ∈ l9) (m2 : (c, listOf vs.toArray nc) ∈ l9) (sub : ∀ p ∈ imm, p ∈ l9)
    (hi : IntsAre vs cells) (hc : Cells cells) (hm : 0 ≤ mx ∧ mx < 2147483647) (ht : TreeIn l9 t' r) (h6 : t'.wf 3) (h7 : t'.depth ≤ t.depth + 1) (h8 : t'.size ≤ t.size + 1) : Q r { s with heap := h', toks := tk' } :=
  hret r _ h' tk' F (news_cons N m1 (news_cons N m2 (news_app (news_sub N fil_sub) (news_sub N sub)))) ⟨t', cells, vs, nd, nc, mx, tk, fil ((d, o1) :: (c, o2) :: imm) l9, rfl, hi, hc, hm, fil_fresh, .only (tups_fil N (fun q hq => by
    rcases List.mem_cons.mp hq with rfl | hq
    · exact .inr ⟨_, m1, fun e => absurd (Value.type.inj e) (by decide)⟩
    · rcases List.mem_cons.mp hq with rfl | hq
      · exact .inr ⟨_, m2, fun e => absurd (Value.type.inj e) (by decide)⟩
      · exact .inl hq) sub) _ _ ht, h6, h7, h8⟩
/-- behind the first test -/
noncomputable def SpJ (h₀ : Heap) (L : Addr) (m : Str → Option Value) (s : Shared) (d c : Nat) (imm : List (Addr × Obj)) (s' : Shared) : Prop :=
  ∃ h tk o cells vs nd nc mx tk0, s' = { s with heap := h, toks := tk } ∧ Fr h₀ L h (fun z => if z = "_law_at" then o else m z) ∧ News h₀ L h ((d, listOf #[.ref c, .int mx tk0] nd) :: (c, listOf vs.toArray nc) :: imm) ∧ IntsAre vs cells ∧ Cells cells ∧ (0 ≤ mx ∧ mx < 2147483647)
theorem sp_cut {M : Model} {A : Around} {E : Value → Shared → Prop} {st : Stmt} {env : Env} {Q : Flow → Shared → Prop} {P : Shared → Prop} (d c : Nat) (imm : List (Addr × Obj)) (F : Fr h₀ L s.heap m)
    (h1 : wpAny M A (exec st env) (fun f s' => match f with | .next => SpJ h₀ L m s d c imm s' | f => Q f s') E s) (h2 : ∀ s', SpJ h₀ L m s d c imm s' → P s') :
    wpAny M A (exec st env) (fun f s' => match f with | .next => P s' | f => Q f s') E s :=
  wpAny_mono h1 (fun f s' h => by
    cases f with
    | next => exact h2 s' h
    | _ => exact h) fun _ _ h => h
theorem SpJ.mk0 {d c : Nat} {cells : List Int} {vs : List Value} {nd nc : Nat} {mx : Int} {tk0 : Tok} {h : Heap} {tk : Nat} (F : Fr h₀ L h m) (N : News h₀ L h l) (m1 : (d, listOf #[.ref c, .int mx tk0] nd) ∈ l) (m2 : (c, listOf vs.toArray nc) ∈ l) (sub : ∀ p ∈ imm, p ∈ l)
    (hi : IntsAre vs cells) (hc : Cells cells) (hm : 0 ≤ mx ∧ mx < 2147483647) : SpJ h₀ L m s d c imm { s with heap := h, toks := tk } :=
  ⟨h, tk, m "_law_at", cells, vs, nd, nc, mx, tk0, rfl, Fr.any "_law_at" F, news_cons N m1 (news_cons N m2 (news_sub N sub)), hi, hc, hm⟩
theorem SpJ.mk1 {v : Value} {d c : Nat} {cells : List Int} {vs : List Value} {nd nc : Nat} {mx : Int} {tk0 : Tok} {h : Heap} {tk : Nat} (F : Fr h₀ L h (fun z => if z = "_law_at" then some v else m z)) (N : News h₀ L h l) (m1 : (d, listOf #[.ref c, .int mx tk0] nd) ∈ l) (m2 : (c, listOf vs.toArray nc) ∈ l) (sub : ∀ p ∈ imm, p ∈ l)
    (hi : IntsAre vs cells) (hc : Cells cells) (hm : 0 ≤ mx ∧ mx < 2147483647) : SpJ h₀ L m s d c imm { s with heap := h, toks := tk } :=
  ⟨h, tk, some v, cells, vs, nd, nc, mx, tk0, rfl, F, news_cons N m1 (news_cons N m2 (news_sub N sub)), hi, hc, hm⟩
end
theorem kw16 : True := by
  k_with "k_mem" => (first | (first | exact List.Mem.head _ | (refine' List.mem_cons_of_mem _ ?_; k_mem) | with_reducible assumption) | fail)
  k_with "my assign Tuple" => ((k_here; (with_reducible show wpAny _ _ (assign (Expr.Tuple _ _ _) _ (Value.ref _)) _ _ _); k_dflt (refine' unpackN_ ?k1Q53 ?k2Q53 ?k3Q53 ?k4Q53 ?k5Q53 ?k6Q53 ?_; (case k1Q53 => k_asm); (case k2Q53 => k_asm); (case k3Q53 => exact News.isTup (by k_asm) (by k_mem)); (case k4Q53 => exact rfl); (case k5Q53 => exact rfl); (case k6Q53 => exact rfl); k_whole); intro h'ZZ F'ZZ N'ZZ; (try k_sweep)))
  k_with "my call ref" => (((with_reducible show wpAny _ _ (call (Value.ref 793) _) _ _ _); refine Stop.out ?_))
  k_with "my call ref" => (((with_reducible show wpAny _ _ (call (Value.ref 805) _) _ _ _); refine Stop.out ?_))
  k_with "my call ref" => (((with_reducible show wpAny _ _ (call (Value.ref 812) _) _ _ _); refine Stop.out ?_))
  k_with "my subscriptTail" => ((k_here; (with_reducible show wpAny _ _ (subscriptTail _ _ (Value.ref _) (Value.int _ _)) _ _ _); first | k_dflt (refine' item_lst ?NQ57 ?mQ57 ?aQ57 ?bQ57 ?cQ57 ?_ ?dQ57; (case NQ57 => k_asm); (case mQ57 => k_mem); (case aQ57 => decide); (case bQ57 => decide); (case cQ57 => rfl); (case dQ57 => with_unfolding_all rfl); k_whole) | k_dflt (refine' item_tupl ?NQ57 ?mQ57 ?aQ57 ?bQ57 ?cQ57 ?_ ?dQ57; (case NQ57 => k_asm); (case mQ57 => k_mem); (case aQ57 => decide); (case bQ57 => decide); (case cQ57 => rfl); (case dQ57 => with_unfolding_all rfl); k_whole) | ((with_reducible show wpAny _ _ (subscriptTail (Expr.List _ _) _ (Value.ref _) (Value.int _ _)) _ _ _); k_idxSplit)))
  k_with "my subscriptTail Name Constant ref int" => ((k_here; (with_reducible show wpAny _ _ (subscriptTail _ _ (Value.ref _) (Value.int _ _)) _ _ _); first | k_dflt (refine' item_lst ?NQ58 ?mQ58 ?aQ58 ?bQ58 ?cQ58 ?_ ?dQ58; (case NQ58 => k_asm); (case mQ58 => k_mem); (case aQ58 => decide); (case bQ58 => decide); (case cQ58 => rfl); (case dQ58 => with_unfolding_all rfl); k_whole) | k_dflt (refine' item_tupl ?NQ58 ?mQ58 ?aQ58 ?bQ58 ?cQ58 ?_ ?dQ58; (case NQ58 => k_asm); (case mQ58 => k_mem); (case aQ58 => decide); (case bQ58 => decide); (case cQ58 => rfl); (case dQ58 => with_unfolding_all rfl); k_whole) | ((with_reducible show wpAny _ _ (subscriptTail (Expr.List _ _) _ (Value.ref _) (Value.int _ _)) _ _ _); k_idxSplit)))
  k_with "my getItem ref int" => ((k_here; (with_reducible show wpAny _ _ (getItem (Value.ref _) (Value.int _ _)) _ _ _); k_dflt (first | (refine' dict_int ?NQ59 ?mQ59 ?aQ59 ?bQ59 ?cQ59 ?dQ59 ?_; (case NQ59 => k_asm); (case mQ59 => exact List.Mem.head _); (case aQ59 => k_asm); (case bQ59 => k_asm); (case cQ59 => k_asm); (case dQ59 => rfl); k_whole) | (refine' dict_strv ?NQ59 ?mQ59 ?aQ59 ?bQ59 ?cQ59 ?dQ59 ?_; (case NQ59 => k_asm); (case mQ59 => exact List.Mem.head _); (case aQ59 => k_asm); (case bQ59 => k_asm); (case cQ59 => k_asm); (case dQ59 => rfl); k_whole)); intro t'ZZ))
  k_with "my subscriptTail" => ((k_here; (with_reducible show wpAny _ _ (subscriptTail (Expr.Dict _ _ _) _ (Value.ref _) (Value.int _ _)) _ _ _); k_dflt (refine' tab_tail (knd := intKind _ _) (enc := PyData.int) ?TQ60 ?_; (case TQ60 => k_tabat); k_whole)))
  k_with "my call ref" => ((k_here; (with_reducible show wpAny _ _ (call (Value.ref 793) [Value.ref _, Value.int _ _]) _ _ _); k_dflt (refine' draw_use ?hfQ61 ?hkQ61 ?BQ61 ?FQ61 ?XQ61 ?NQ61 ?TQ61 ?e1Q61 ?e2Q61 ?hiQ61 ?hcQ61 ?hmQ61 ?hmanyQ61 ?hdcQ61 ?hndQ61 ?hncQ61 ?hd1Q61 ?hu1Q61 ?_; (case hfQ61 => rfl); (case hkQ61 => first | rfl | assumption); (case BQ61 => k_asm); (case FQ61 => k_asm); (case XQ61 => k_in); (case NQ61 => k_asm); (case TQ61 => k_asm); (case e1Q61 => tbn_lt); (case e2Q61 => tbn_lt); (case hiQ61 => k_asm); (case hcQ61 => k_asm); (case hmQ61 => k_asm); (case hmanyQ61 => decide); (case hdcQ61 => k_ne); (case hndQ61 => k_all); (case hncQ61 => k_all); (case hd1Q61 => k_room); (case hu1Q61 => ke_room)); intro k'ZZ t'ZZ cells'ZZ vs'ZZ nd'ZZ nc'ZZ mx'ZZ tk''ZZ h'ZZ tk'ZZ F'ZZ N'ZZ hi'ZZ hc'ZZ hm'ZZ hk'ZZ; (try k_sweep)))
  k_with "my call ref" => ((k_here; (with_reducible show wpAny _ _ (call (Value.ref 793) [Value.ref _, Value.int 4 _]) _ _ _); k_dflt (refine' draw_use ?hfQ62 ?hkQ62 ?BQ62 ?FQ62 ?XQ62 ?NQ62 ?TQ62 ?e1Q62 ?e2Q62 ?hiQ62 ?hcQ62 ?hmQ62 ?hmanyQ62 ?hdcQ62 ?hndQ62 ?hncQ62 ?hd1Q62 ?hu1Q62 ?_; (case hfQ62 => rfl); (case hkQ62 => first | rfl | assumption); (case BQ62 => k_asm); (case FQ62 => k_asm); (case XQ62 => k_in); (case NQ62 => k_asm); (case TQ62 => k_asm); (case e1Q62 => tbn_lt); (case e2Q62 => tbn_lt); (case hiQ62 => k_asm); (case hcQ62 => k_asm); (case hmQ62 => k_asm); (case hmanyQ62 => decide); (case hdcQ62 => k_ne); (case hndQ62 => k_all); (case hncQ62 => k_all); (case hd1Q62 => k_room); (case hu1Q62 => ke_room)); intro k'ZZ t'ZZ cells'ZZ vs'ZZ nd'ZZ nc'ZZ mx'ZZ tk''ZZ h'ZZ tk'ZZ F'ZZ N'ZZ hi'ZZ hc'ZZ hm'ZZ hk'ZZ; (have hk4'ZZ := InW.hi hk'ZZ); (try k_sweep)))
  k_with "my exec If" => (((fail_if_success (with_reducible rename Mk2 => q9ZZ)); refine Stop.out ?_))
  k_with "my compareOp NotEq ref ref" => ((k_here; k_dflt (refine' ne_unit ?NQ64 ?aQ64 ?bQ64 ?sQ64 ?cQ64 ?dQ64 ?uQ64 ?_; (case NQ64 => k_asm); (case aQ64 => k_mem); (case bQ64 => k_mem); (case cQ64 => with_reducible assumption); (case sQ64 => tb_start); (case dQ64 => with_reducible assumption); (case uQ64 => ke_room))))
  k_with "my call builtin:len" => ((k_here; (with_reducible show wpAny _ _ (call (Value.builtin "len") [Value.ref _]) _ _ _); k_dflt (refine' len_tup ?NQ65 ?aQ65 ?zQ65 ?_; (case NQ65 => k_asm); (case aQ65 => k_mem); (case zQ65 => exact Nat.le_trans (by with_reducible assumption) (by decide : 3 ≤ 1000))); intro tk'ZZ tk''ZZ))
  k_with "my call ref" => ((k_here; (with_reducible show wpAny _ _ (call (Value.ref 793) [Value.ref _, Value.int ((List.length _ : Nat) : Int) _]) _ _ _); k_dflt (refine' draw_use ?hfQ66 ?hkQ66 ?BQ66 ?FQ66 ?XQ66 ?NQ66 ?TQ66 ?e1Q66 ?e2Q66 ?hiQ66 ?hcQ66 ?hmQ66 ?hmanyQ66 ?hdcQ66 ?hndQ66 ?hncQ66 ?hd1Q66 ?hu1Q66 ?_; (case hfQ66 => rfl); (case hkQ66 => first | rfl | assumption); (case BQ66 => k_asm); (case FQ66 => k_asm); (case XQ66 => k_in); (case NQ66 => k_asm); (case TQ66 => k_asm); (case e1Q66 => tbn_lt); (case e2Q66 => tbn_lt); (case hiQ66 => k_asm); (case hcQ66 => k_asm); (case hmQ66 => k_asm); (case hmanyQ66 => exact len_many (by with_reducible assumption) (by with_reducible assumption) (by with_reducible assumption)); (case hdcQ66 => k_ne); (case hndQ66 => k_all); (case hncQ66 => k_all); (case hd1Q66 => k_room); (case hu1Q66 => ke_room)); intro k'ZZ t'ZZ cells'ZZ vs'ZZ nd'ZZ nc'ZZ mx'ZZ tk''ZZ h'ZZ tk'ZZ F'ZZ N'ZZ hi'ZZ hc'ZZ hm'ZZ hk'ZZ; (with_reducible rename TreesIn _ _ _ => hx'ZZ); k_dflt (obtain ⟨a'ZZ, t0'ZZ, b'ZZ, va'ZZ, v0'ZZ, vb'ZZ, e1'ZZ, e2'ZZ, e3'ZZ, hx1'ZZ, hx2'ZZ, hx3'ZZ⟩ := pickI hx'ZZ hk'ZZ); subst e1'ZZ; subst e2'ZZ; subst e3'ZZ; clear hk'ZZ; (try k_sweep)))
  k_with "my subscriptTail Name Name ref int" => ((k_here; (with_reducible show wpAny _ _ (subscriptTail _ _ (Value.ref _) (Value.int _ _)) _ _ _); k_dflt (refine' item_tupl ?NQ67 ?mQ67 ?aQ67 ?bQ67 ?cQ67 ?_ ?dQ67; (case NQ67 => k_asm); (case mQ67 => k_mem); (case aQ67 => exact Int.natCast_nonneg _); (case bQ67 => exact ix_lt (by with_reducible assumption)); (case cQ67 => exact nth_app); (case dQ67 => with_unfolding_all rfl); k_whole)))
  k_with "my subscriptTail Name Slice ref ref" => ((k_here; (with_reducible show wpAny _ _ (subscriptTail _ (PySem.Expr.Slice _ _ _ _) (Value.ref _) (Value.ref _)) _ _ _); k_dflt (first | (refine' slice_tup ?FQ68 ?NQ68 ?lQ68 ?aQ68 ?noQ68 ?zQ68 ?_ ?sQ68 ?tQ68 ?szQ68; (case FQ68 => k_asm); (case NQ68 => k_asm); (case lQ68 => k_mem); (case aQ68 => exact sl_upto app_le); (case noQ68 => exact no_take); (case zQ68 => exact range_take); (case sQ68 => with_unfolding_all rfl); (case tQ68 => kmk_pure); (case szQ68 => exact va_le (by with_reducible assumption))) | (refine' slice_tup ?FQ68 ?NQ68 ?lQ68 ?aQ68 ?noQ68 ?zQ68 ?_ ?sQ68 ?tQ68 ?szQ68; (case FQ68 => k_asm); (case NQ68 => k_asm); (case lQ68 => k_mem); (case aQ68 => exact sl_from1 app_lt); (case noQ68 => exact no_drop); (case zQ68 => exact range_drop); (case sQ68 => with_unfolding_all rfl); (case tQ68 => kmk_pure); (case szQ68 => exact vb_le (by with_reducible assumption))) | (refine' slice_tup ?FQ68 ?NQ68 ?lQ68 ?aQ68 ?noQ68 ?zQ68 ?_ ?sQ68 ?tQ68 ?szQ68; (case FQ68 => k_asm); (case NQ68 => k_asm); (case lQ68 => k_mem); (case aQ68 => exact sl_rev); (case noQ68 => exact no_rev); (case zQ68 => exact range_rev); (case sQ68 => with_unfolding_all rfl); (case tQ68 => kmk_pure); (case szQ68 => exact rev_le (by with_reducible assumption)))); intro D'ZZ h'ZZ F'ZZ N'ZZ l1ZZ; clear l1ZZ; (try k_sweep)))
  k_with "my binaryOp Add ref ref" => ((k_here; (with_reducible show wpAny _ _ (binaryOp _ (Value.ref _) (Value.ref _)) _ _ _); k_dflt (refine' add_any ?FQ69 ?NQ69 ?aQ69 ?bQ69 ?zQ69 ?_; (case FQ69 => k_asm); (case NQ69 => k_asm); (case aQ69 => k_mem); (case bQ69 => k_mem); (case zQ69 => first | exact z1_le (by with_reducible assumption) | exact z2_le (by with_reducible assumption) | exact z3_le (by with_reducible assumption))); intro D'ZZ n'ZZ h'ZZ F'ZZ N'ZZ; (try k_sweep)))
  k_with "my compareOp In str ref" => ((k_here; k_dflt (refine' in_strs ?NQ70 ?aQ70 ?bQ70 ?_; (case NQ70 => k_asm); (case aQ70 => k_mem); (case bQ70 => first | exact .cons _ _ (.cons _ _ .nil) | exact .cons _ _ (.cons _ _ (.cons _ _ .nil)))); (try dsimp only [List.any_cons, List.any_nil])))
  k_with "my call ref" => ((k_here; (with_reducible show wpAny _ _ (call (Value.ref 812) [Value.ref _, _]) _ _ _); k_dflt (refine' spoilt_use ?SQ71 ?hfQ71 ?hkQ71 ?BQ71 ?FQ71 ?XQ71 ?NQ71 ?TQ71 ?e1Q71 ?e2Q71 ?hiQ71 ?hcQ71 ?hmQ71 ?hdcQ71 ?hndQ71 ?hncQ71 ?subQ71 ?htQ71 ?hwQ71 ?hd1Q71 ?hu1Q71 ?_; (case hfQ71 => rfl); (case hkQ71 => first | rfl | assumption); (case BQ71 => k_asm); (case FQ71 => k_asm); (case XQ71 => k_in); (case NQ71 => k_asm); (case TQ71 => k_asm); (case e1Q71 => tbn_lt); (case e2Q71 => tbn_lt); (case hiQ71 => k_asm); (case hcQ71 => k_asm); (case hmQ71 => k_asm); (case hdcQ71 => k_ne); (case hndQ71 => k_all); (case hncQ71 => k_all); (case htQ71 => with_reducible assumption); (case subQ71 => tb_start); (case SQ71 => exact ih_mid (by assumption)); (case hwQ71 => exact wfs_mid (by assumption)); (case hd1Q71 => exact room_mid (by assumption)); (case hu1Q71 => exact un_mid (by assumption) (by (try simp only [units_in1, units_deeper, Around.mark_units, units_caller]); (try dsimp only [arTop]); omega))); intro r'ZZ t'ZZ cells'ZZ vs'ZZ nd'ZZ nc'ZZ mx'ZZ tk''ZZ tl'ZZ h'ZZ tk'ZZ F'ZZ N'ZZ hi'ZZ hc'ZZ hm'ZZ ht'ZZ hw'ZZ hdd'ZZ hss'ZZ; (try k_sweep)))
  k_with "my exec If" => (((with_reducible show wpAny _ _ (exec (Stmt.If (Expr.Compare (Expr.Name (Str.ofString "_law_word") _) _ _ _) _ _ _) _) _ _ _); (fail_if_success (with_reducible rename Mk3 => q9ZZ)); refine Stop.out ?_))
  k_with "my subscriptTail" => ((k_here; (with_reducible show wpAny _ _ (subscriptTail (Expr.List _ _) _ (Value.ref _) (Value.int _ _)) _ _ _); k_dflt (refine' item4 ?NQ73 ?mQ73 ?aQ73 ?_ ?dQ73; (case NQ73 => k_asm); (case mQ73 => k_mem); (case aQ73 => with_reducible assumption); (case dQ73 => with_unfolding_all rfl)); intro v'ZZ hv'ZZ))
  k_with "my exec Assign" => (k_fold)
  k_with "my exec If" => (k_fold)
  k_with "my exec Return" => (k_fold)
  k_with "my exec Expr" => (k_fold)
  k_with "my newTuple" => ((k_here; k_dflt (refine' kup_newTuple ?FQ78 ?NQ78 ?_ ?zQ78; (case FQ78 => k_asm); (case NQ78 => k_asm); (case zQ78 => kmk_size)); intro D'ZZ h'ZZ F'ZZ N'ZZ l1ZZ; clear l1ZZ; (try k_sweep)))
  k_with "my storeName" => ((k_here; k_dflt (refine' storeX_L ?FQ79 ?NQ79 ?_ ?aQ79 ?bQ79; (case FQ79 => k_asm); (case NQ79 => k_asm); (case aQ79 => rfl); (case bQ79 => rfl); k_whole; intro h'ZZ F'ZZ N'ZZ; (try k_sweep)); (refine let_m F'ZZ ?_); clear F'ZZ; intro m'ZZ F'ZZ))
  k_with "k_ne" => (first | ((refine neN ?_; (try dsimp only); first | with_reducible assumption | exact Ne.symm (by with_reducible assumption) | exact neC (by k_asm) (by k_mem) (by k_mem) tl_ne)) | fail)
  trivial
theorem spoilt_step (prog : Program) (w : World) (h : Hd) (ts : List T) (ih : ∀ t ∈ ts, SpSpec prog w t) : SpSpec prog w (.node h ts) := by
  have hfill9 : PySem.Challenge.rw_on0297_01 = PySem.Challenge.rw_on0297_01 ∧ hd.heap_1 = hd.heap_1 := by
    k_fill
    exact ⟨rfl, rfl⟩
  clear hfill9
  intro d c cells vs nd nc mx tk0 v imm hi hc hm hdc hnd hnc ht hw
  obtain ⟨a, p9, x, t1, n1, n2, vs9, rfl, hm1, hm2, hm3, hm4⟩ := ht.inv
  generalize hwd : h.word = wd at hm1
  unfold T.wf at hw
  obtain ⟨hw1, hw2⟩ := hw
  have hl3 : vs9.length ≤ 3 := by rw [hm4.length]; exact wfh_len hw1
  rintro p loose mean mg mb dp un gd ⟨⟨_, nm, ig, ic, mo⟩, lo, gl, ce, qu, fu, co, _, bu⟩ outer A₀ base h₀ L m s Q E rfl rfl B F X N T hd1 hu1 hret
  refine wpAny_call ?_
  k_dflt k_enter
  refine let_env ?_
  intro env9
  k_steps
  refine Stop.into ?_
  refine sp_cut d c imm (by k_asm) ?_ ?_
  · have mk9 := Mk2.mk
    k_steps
    · exact SpJ.mk0 (by k_asm) (by k_asm) (by k_mem) (by k_mem) (by tb_start) (by assumption) (by assumption) (by assumption)
    iterate 2
      · (rename Fr h₀ L _ m => F9); (rename News h₀ L _ _ => N9)
        subst hwd
        refine sp_fin hret F9 N9 (by k_mem) (by k_mem) (by tb_start) (by assumption) (by assumption) (by assumption) (.node (by k_mem) (hm2.mono (by tb_start)) (by k_mem) (put_in (by with_reducible assumption) (by with_reducible assumption) (by with_reducible assumption) (by tb_start) (by tb_start))) (put_wf hw1 hw2 (by with_reducible assumption)) (put_depth (by with_reducible assumption)) (put_size (by with_reducible assumption))
    · exact SpJ.mk1 (by k_asm) (by k_asm) (by k_mem) (by k_mem) (by tb_start) (by assumption) (by assumption) (by assumption)
    · exact SpJ.mk0 (by k_asm) (by k_asm) (by k_mem) (by k_mem) (by tb_start) (by assumption) (by assumption) (by assumption)
  · rintro s' ⟨h9, tk9, o9, cells9, vs9', nd9, nc9, mx9, tk09, rfl, F9, N9, hi9, hc9, hm9⟩
    clear hi hc hm
    have mk9 := Mk2.mk
    k_steps
    · (rename Fr h₀ L _ m => F9); (rename News h₀ L _ _ => N9)
      refine sp_fin hret F9 N9 (by k_mem) (by k_mem) (by tb_start) (by assumption) (by assumption) (by assumption) (.mono (by tb_start) _ _ ht) (hd_wf (wfh_up hw1) hw2) (Nat.le_succ _) (Nat.le_succ _)
    · refine Stop.into ?_
      have mk8 := Mk3.mk
      cases h with
      | s w9 k =>
        obtain rfl : w9 = wd := hwd
        obtain ⟨hwl, hwf⟩ := w_ne' hw1
        obtain ⟨t9, rfl⟩ := hm2
        k_steps
        · (rename Fr h₀ L _ m => F9); (rename News h₀ L _ _ => N9)
          exact sp_fin hret F9 N9 (by k_mem) (by k_mem) (by tb_start) (by assumption) (by assumption) (by assumption) (.node (h := .s w9 k) (ts := ts ++ [.node (.s "const" 0) []]) (by k_mem) ⟨_, rfl⟩ (by k_mem) (TreesIn.snoc (TreesIn.mono (by tb_start) _ _ hm4) (.node (h := .s "const" 0) (ts := []) (by k_mem) ⟨_, rfl⟩ (by k_mem) .nil))) (add_wf hw1 hw2 (by with_reducible assumption)) add_depth add_size
        · (rename Fr h₀ L _ m => F9); (rename News h₀ L _ _ => N9)
          exact sp_fin hret F9 N9 (by k_mem) (by k_mem) (by tb_start) (by assumption) (by assumption) (by assumption) (.node (h := .s w9 k) (ts := ts.reverse) (by k_mem) ⟨_, rfl⟩ (by k_mem) (TreesIn.rev (TreesIn.mono (by tb_start) _ _ hm4))) (rev_wf hw1 hw2) rev_depth rev_size
        iterate 2
          · (rename Fr h₀ L _ m => F9); (rename News h₀ L _ _ => N9)
            exact sp_fin hret F9 N9 (by k_mem) (by k_mem) (by tb_start) (by assumption) (by assumption) (by assumption) (.node (h := .s w9 ((k + _).fmod 3)) (ts := ts) (by k_mem) ⟨_, rfl⟩ (by k_mem) (TreesIn.mono (by tb_start) _ _ hm4)) (hd_wf (mod_wf hw1) hw2) (Nat.le_succ _) (Nat.le_succ _)
        · (rename Fr h₀ L _ m => F9); (rename News h₀ L _ _ => N9)
          exact sp_fin hret F9 N9 (by k_mem) (by k_mem) (by tb_start) (by assumption) (by assumption) (by assumption) (.node (h := .s w9 k) (ts := ts.reverse) (by k_mem) ⟨_, rfl⟩ (by k_mem) (TreesIn.rev (TreesIn.mono (by tb_start) _ _ hm4))) (rev_wf hw1 hw2) rev_depth rev_size
        iterate 2
          · (rename Fr h₀ L _ m => F9); (rename News h₀ L _ _ => N9)
            exact sp_fin hret F9 N9 (by k_mem) (by k_mem) (by tb_start) (by assumption) (by assumption) (by assumption) (.node (h := .s w9 ((k + _).fmod 3)) (ts := ts) (by k_mem) ⟨_, rfl⟩ (by k_mem) (TreesIn.mono (by tb_start) _ _ hm4)) (hd_wf (mod_wf hw1) hw2) (Nat.le_succ _) (Nat.le_succ _)
      | lam l ps r =>
        obtain rfl : Str.ofString "lambda" = wd := hwd
        obtain ⟨q9, u9, us9, t2, t3, n3, n4, rfl, hq1, hq2, hq3⟩ := hm2
        have hul : us9.length ≤ 3 := by rw [hq3.length]; exact Nat.le_succ_of_le hw1.2.2.1
        k_steps
        (rename Fr h₀ L _ m => F9); (rename News h₀ L _ _ => N9); rename (_ = _ ∨ _ = _ ∨ _ = _ ∨ _ = _) => hv9
        rcases hv9 with rfl | rfl | rfl | rfl
        · exact sp_fin hret F9 N9 (by k_mem) (by k_mem) (by tb_start) (by assumption) (by assumption) (by assumption) (.node (h := .lam l ps r) (ts := ts) (by k_mem) ⟨_, _, _, _, _, _, _, rfl, by k_mem, by k_mem, hq3⟩ (by k_mem) (TreesIn.mono (by tb_start) _ _ hm4)) (hd_wf (wfh_up hw1) hw2) (Nat.le_succ _) (Nat.le_succ _)
        · exact sp_fin hret F9 N9 (by k_mem) (by k_mem) (by tb_start) (by assumption) (by assumption) (by assumption) (.node (h := .lam l (ps ++ [2]) r) (ts := ts) (by k_mem) ⟨_, _, _, _, _, _, _, rfl, by k_mem, by k_mem, hq3.append (.cons _ _ .nil)⟩ (by k_mem) (TreesIn.mono (by tb_start) _ _ hm4)) (hd_wf (lam1_wf hw1) hw2) (Nat.le_succ _) (Nat.le_succ _)
        · exact sp_fin hret F9 N9 (by k_mem) (by k_mem) (by tb_start) (by assumption) (by assumption) (by assumption) (.node (h := .lam l ps (-1 - r)) (ts := ts) (by k_mem) ⟨_, _, _, _, _, _, _, rfl, by k_mem, by k_mem, hq3⟩ (by k_mem) (TreesIn.mono (by tb_start) _ _ hm4)) (hd_wf (lam2_wf hw1) hw2) (Nat.le_succ _) (Nat.le_succ _)
        · exact sp_fin hret F9 N9 (by k_mem) (by k_mem) (by tb_start) (by assumption) (by assumption) (by assumption) (.node (h := .lam 1 ps r) (ts := ts) (by k_mem) ⟨_, _, _, _, _, _, _, rfl, by k_mem, by k_mem, hq3⟩ (by k_mem) (TreesIn.mono (by tb_start) _ _ hm4)) (hd_wf (lam3_wf hw1) hw2) (Nat.le_succ _) (Nat.le_succ _)
      | fix k =>
        obtain rfl : Str.ofString "fix" = wd := hwd
        k_steps
        (rename Fr h₀ L _ m => F9); (rename News h₀ L _ _ => N9)
        refine sp_fin hret F9 N9 (by k_mem) (by k_mem) (by tb_start) (by assumption) (by assumption) (by assumption) (.mono (by tb_start) _ _ ht) (hd_wf (wfh_up hw1) hw2) (Nat.le_succ _) (Nat.le_succ _)
end
section
set_option maxHeartbeats 4000000
theorem kw18 : True := by
  k_with_none
  k_with "ke_room" => (first | ((have hcL9ZZ := cLine_is; simp only [units_in1, units_deeper, Around.mark_units, units_caller]; (try dsimp only [arTop]); omega)) | fail)
  k_with "k_units" => (first | (ke_room) | fail)
  k_with "units_room" => (first | (ke_room) | fail)
  k_with "k_room" => (first | (((try simp only [depth_under_make, depth_under_kw, depth_in1, depth_deeper, depth_caller]); (try dsimp only [arTop]); (try simp only [recursionLimit]); omega)) | fail)
  k_with "ktr_room" => (first | (k_room) | fail)
  k_with "ktr_member" => (first | (first | exact allLt_ne (by with_reducible assumption) | exact allLt_ne1 (by with_reducible assumption) | exact allLt_ne2 (by with_reducible assumption) | exact off3_I (by with_reducible assumption) | exact off3_C (by with_reducible assumption) | exact off3_D (by with_reducible assumption) | exact off1_D (by with_reducible assumption)) | fail)
  k_with "k_ne" => (first | ((refine neN ?_; (try dsimp only); first | with_reducible assumption | exact Ne.symm (by with_reducible assumption) | exact Nat.ne_of_lt (by with_reducible assumption) | exact Nat.ne_of_gt (by with_reducible assumption) | omega)) | fail)
  k_with "kst_all" => (first | (first | with_reducible assumption | ktr_member | exact off_app (by first | with_reducible assumption | ktr_member) | exact off_app (off_app (by first | with_reducible assumption | ktr_member)) | exact off_app (off_app (off_app (by first | with_reducible assumption | ktr_member)))) | fail)
  k_with "kst_mem" => (first | ((refine' fil_mem ?aQ9 ?bQ9; (case aQ9 => k_mem); (case bQ9 => k_all))) | fail)
  k_with "kst_p" => (first | ((refine' fil_tree ?aQ10 ?bQ10 ?cQ10; (case aQ10 => with_reducible assumption); (case bQ10 => tb_start); (case cQ10 => exact fr_tl (by with_reducible assumption) (by with_reducible assumption) (by with_reducible assumption) (by with_reducible assumption) (by tb_start)))) | fail)
  k_with "k_all" => (first | (first | exact List.forall_mem_nil _ | (refine' List.forall_mem_cons.mpr ⟨?aQ11, ?bQ11⟩; (case aQ11 => k_ne); (case bQ11 => k_all)) | kst_all) | fail)
  k_with "lcg_off" => (first | (first | exact True.intro | (refine And.intro ⟨?aQ12, ?bQ12, ?cQ12⟩ ?dQ12; (case aQ12 => k_ne); (case bQ12 => k_ne); (case cQ12 => k_ne); (case dQ12 => lcg_off)) | with_reducible assumption | exact off3_of (by first | with_reducible assumption | ktr_member) (by first | with_reducible assumption | ktr_member) (by first | with_reducible assumption | ktr_member)) | fail)
  k_with "tb_rel" => (first | (first | with_reducible assumption | (refine List.mem_cons_of_mem _ ?_; tb_rel) | (refine List.mem_append.mpr (Or.inr ?_); tb_rel) | (refine List.mem_append.mpr (Or.inl ?_); tb_rel)) | fail)
  k_with "tb_start" => (first | ((intro p9ZZ hp9ZZ; tb_rel)) | fail)
  k_with "tbn_lt" => (first | (first | exact Ext.head | (refine' Ext.tail ?aQ15; (case aQ15 => tbn_lt))) | fail)
  k_with "tbn_below" => (first | (first | (refine' Split.cons ?aQ16; (case aQ16 => tbn_below)) | exact Split.base) | fail)
  k_with "tbn_conj" => (first | (first | exact True.intro | (refine' And.intro ?aQ17 ?bQ17; (case aQ17 => first | with_reducible assumption | ktr_member); (case bQ17 => tbn_conj))) | fail)
  k_with "my ite" => ((k_closed; first | (refine' iteBT ?p9Q18 ?_; (case p9Q18 => decide)) | (refine' iteBF ?p9Q18 ?_; (case p9Q18 => decide))))
  k_with "my CompEnd" => ((k_here; k_dflt (refine' comp_end ?FQ19 ?NQ19 ?e1Q19 ?e2Q19 ?e3Q19 ?offQ19 ?_; (case FQ19 => k_asm); (case NQ19 => k_asm); (case e1Q19 => tbn_lt); (case e2Q19 => tbn_lt); (case e3Q19 => tbn_lt); (case offQ19 => lcg_off))))
  k_with "my CompSrc" => ((k_here; k_dflt (refine LCg.CompSrc.range (by rfl) (by k_asm) (by k_asm) (by assumption) (by first | decide | rfl) (by first | rfl | decide) (by first | size_fits | exact Nat.le_of_ble_eq_true rfl) ?_; intro g'ZZ; lcg_lit)))
  k_with "my CompRest" => ((with_unfolding_all first | (refine LCg.CompRest.succ ?_; intro v'ZZ I'ZZ oI'ZZ C'ZZ oC'ZZ D'ZZ m'ZZ h'ZZ tk'ZZ E'ZZ hv'ZZ hC'ZZ hx'ZZ F'ZZ N'ZZ off'ZZ ne'ZZ; (first | lcg_open hv'ZZ | (obtain ⟨t9'ZZ, hv9'ZZ⟩ := hv'ZZ; subst hv9'ZZ)); (try dsimp only [LCg.Off3] at off'ZZ); (refine let_goal ?_); intro G9ZZ; (repeat (with_reducible obtain ⟨⟨_, _, _⟩, off'ZZ⟩ := off'ZZ)); (obtain ⟨_, _, _⟩ := ne'ZZ); k_unfold; clear G9ZZ) | refine LCg.CompRest.zero ?_))
  k_with "my FinE" => (((unfold LCg.FinE); intro D'ZZ h'ZZ tk'ZZ F'ZZ N'ZZ o1'ZZ; (try dsimp only [LCg.Off1] at o1'ZZ); (refine let_goal ?_); intro G9ZZ; (repeat (with_reducible obtain ⟨_, o1'ZZ⟩ := o1'ZZ)); k_unfold; clear G9ZZ; (try simp only [List.nil_append, List.cons_append] at N'ZZ); (try dsimp only)))
  trivial
noncomputable abbrev fe (P : Params) (x : Str) (t : Tok) (v : Value) : DictEntry := { hash := PyData.keyHash P x, key := .str x t, val := v }
noncomputable def Made1 (w : World) (C : Addr) (n1 : Str) (v1 : Value) (news : List (Addr × Obj)) (r : Value) (news' : List (Addr × Obj)) : Prop :=
  ∃ x d t1, r = .ref x ∧ news' = (x, instObj C d) :: (d, dictOf [fe w.params n1 t1 v1] 1) :: news ∧ (∀ p ∈ news, p.1 < d) ∧ (∀ p ∈ news, p.1 < x)
noncomputable def Mkr1 (prog : Program) (w : World) (C : Addr) (n1 : Str) : Prop := ∀ (v1 : Value) (news : List (Addr × Obj)), CallsTo prog w (hd.heap_1 w.params) C [v1] news 4 200 (Made1 w C n1 v1 news)
noncomputable def Made2 (w : World) (C : Addr) (n1 n2 : Str) (v1 v2 : Value) (news : List (Addr × Obj)) (r : Value) (news' : List (Addr × Obj)) : Prop :=
  ∃ x d t1 t2, r = .ref x ∧ news' = (x, instObj C d) :: (d, dictOf [fe w.params n1 t1 v1, fe w.params n2 t2 v2] 2) :: news ∧ (∀ p ∈ news, p.1 < d) ∧ (∀ p ∈ news, p.1 < x)
noncomputable def Mkr2 (prog : Program) (w : World) (C : Addr) (n1 n2 : Str) : Prop := ∀ (v1 v2 : Value) (news : List (Addr × Obj)), CallsTo prog w (hd.heap_1 w.params) C [v1, v2] news 4 200 (Made2 w C n1 n2 v1 v2 news)
noncomputable def Made3 (w : World) (C : Addr) (n1 n2 n3 : Str) (v1 v2 v3 : Value) (news : List (Addr × Obj)) (r : Value) (news' : List (Addr × Obj)) : Prop :=
  ∃ x d t1 t2 t3, r = .ref x ∧ news' = (x, instObj C d) :: (d, dictOf [fe w.params n1 t1 v1, fe w.params n2 t2 v2, fe w.params n3 t3 v3] 3) :: news ∧ (∀ p ∈ news, p.1 < d) ∧ (∀ p ∈ news, p.1 < x)
noncomputable def Mkr3 (prog : Program) (w : World) (C : Addr) (n1 n2 n3 : Str) : Prop := ∀ (v1 v2 v3 : Value) (news : List (Addr × Obj)), CallsTo prog w (hd.heap_1 w.params) C [v1, v2, v3] news 4 200 (Made3 w C n1 n2 n3 v1 v2 v3 news)
noncomputable def Made4 (w : World) (C : Addr) (n1 n2 n3 n4 : Str) (v1 v2 v3 v4 : Value) (news : List (Addr × Obj)) (r : Value) (news' : List (Addr × Obj)) : Prop :=
  ∃ x d t1 t2 t3 t4, r = .ref x ∧ news' = (x, instObj C d) :: (d, dictOf [fe w.params n1 t1 v1, fe w.params n2 t2 v2, fe w.params n3 t3 v3, fe w.params n4 t4 v4] 4) :: news ∧ (∀ p ∈ news, p.1 < d) ∧ (∀ p ∈ news, p.1 < x)
noncomputable def Mkr4 (prog : Program) (w : World) (C : Addr) (n1 n2 n3 n4 : Str) : Prop := ∀ (v1 v2 v3 v4 : Value) (news : List (Addr × Obj)), CallsTo prog w (hd.heap_1 w.params) C [v1, v2, v3, v4] news 4 200 (Made4 w C n1 n2 n3 n4 v1 v2 v3 v4 news)
theorem mk_const (prog : Program) (w : World) : Mkr1 prog w 66 "value" := by
  have hfill9 : PySem.Challenge.rw_on0297_01 = PySem.Challenge.rw_on0297_01 ∧ hd.heap_1 = hd.heap_1 := by
    k_fill
    exact ⟨rfl, rfl⟩
  clear hfill9
  intro v1 news
  rintro p loose mean mg mb dp un gd ⟨⟨_, nm, ig, ic, mo⟩, lo, gl, ce, qu, fu, co, _, bu⟩ outer A₀ base h₀ L m s Q E rfl rfl B F X N T hd1 hu1 hret
  (refine' call_cls ?k1 ?k2 ?k3 ?k4 ?k5 ?k6 ?_; (case k1 => k_asm); (case k2 => k_asm); (case k3 => k_asm); (case k4 => k_is); (case k5 => k_is); (case k6 => k_is); intro x' d' h' F' N' l1 l2; k_dflt k_enter)
  refine let_env ?_
  intro env9
  k_steps
  exact hret _ _ _ _ (by k_asm) (by k_asm) ⟨_, _, _, rfl, rfl, l1, fun p hp => Nat.lt_trans (l1 p hp) l2⟩
theorem mk_loc (prog : Program) (w : World) : Mkr1 prog w 85 "number" := by
  have hfill9 : PySem.Challenge.rw_on0297_01 = PySem.Challenge.rw_on0297_01 ∧ hd.heap_1 = hd.heap_1 := by
    k_fill
    exact ⟨rfl, rfl⟩
  clear hfill9
  intro v1 news
  rintro p loose mean mg mb dp un gd ⟨⟨_, nm, ig, ic, mo⟩, lo, gl, ce, qu, fu, co, _, bu⟩ outer A₀ base h₀ L m s Q E rfl rfl B F X N T hd1 hu1 hret
  (refine' call_cls ?k1 ?k2 ?k3 ?k4 ?k5 ?k6 ?_; (case k1 => k_asm); (case k2 => k_asm); (case k3 => k_asm); (case k4 => k_is); (case k5 => k_is); (case k6 => k_is); intro x' d' h' F' N' l1 l2; k_dflt k_enter)
  refine let_env ?_
  intro env9
  k_steps
  exact hret _ _ _ _ (by k_asm) (by k_asm) ⟨_, _, _, rfl, rfl, l1, fun p hp => Nat.lt_trans (l1 p hp) l2⟩
theorem mk_glob (prog : Program) (w : World) : Mkr1 prog w 104 "symbol" := by
  have hfill9 : PySem.Challenge.rw_on0297_01 = PySem.Challenge.rw_on0297_01 ∧ hd.heap_1 = hd.heap_1 := by
    k_fill
    exact ⟨rfl, rfl⟩
  clear hfill9
  intro v1 news
  rintro p loose mean mg mb dp un gd ⟨⟨_, nm, ig, ic, mo⟩, lo, gl, ce, qu, fu, co, _, bu⟩ outer A₀ base h₀ L m s Q E rfl rfl B F X N T hd1 hu1 hret
  (refine' call_cls ?k1 ?k2 ?k3 ?k4 ?k5 ?k6 ?_; (case k1 => k_asm); (case k2 => k_asm); (case k3 => k_asm); (case k4 => k_is); (case k5 => k_is); (case k6 => k_is); intro x' d' h' F' N' l1 l2; k_dflt k_enter)
  refine let_env ?_
  intro env9
  k_steps
  exact hret _ _ _ _ (by k_asm) (by k_asm) ⟨_, _, _, rfl, rfl, l1, fun p hp => Nat.lt_trans (l1 p hp) l2⟩
theorem mk_setl (prog : Program) (w : World) : Mkr2 prog w 137 "number" "value" := by
  have hfill9 : PySem.Challenge.rw_on0297_01 = PySem.Challenge.rw_on0297_01 ∧ hd.heap_1 = hd.heap_1 := by
    k_fill
    exact ⟨rfl, rfl⟩
  clear hfill9
  intro v1 v2 news
  rintro p loose mean mg mb dp un gd ⟨⟨_, nm, ig, ic, mo⟩, lo, gl, ce, qu, fu, co, _, bu⟩ outer A₀ base h₀ L m s Q E rfl rfl B F X N T hd1 hu1 hret
  (refine' call_cls ?k1 ?k2 ?k3 ?k4 ?k5 ?k6 ?_; (case k1 => k_asm); (case k2 => k_asm); (case k3 => k_asm); (case k4 => k_is); (case k5 => k_is); (case k6 => k_is); intro x' d' h' F' N' l1 l2; k_dflt k_enter)
  refine let_env ?_
  intro env9
  k_steps
  exact hret _ _ _ _ (by k_asm) (by k_asm) ⟨_, _, _, _, rfl, rfl, l1, fun p hp => Nat.lt_trans (l1 p hp) l2⟩
theorem mk_setg (prog : Program) (w : World) : Mkr2 prog w 170 "symbol" "value" := by
  have hfill9 : PySem.Challenge.rw_on0297_01 = PySem.Challenge.rw_on0297_01 ∧ hd.heap_1 = hd.heap_1 := by
    k_fill
    exact ⟨rfl, rfl⟩
  clear hfill9
  intro v1 v2 news
  rintro p loose mean mg mb dp un gd ⟨⟨_, nm, ig, ic, mo⟩, lo, gl, ce, qu, fu, co, _, bu⟩ outer A₀ base h₀ L m s Q E rfl rfl B F X N T hd1 hu1 hret
  (refine' call_cls ?k1 ?k2 ?k3 ?k4 ?k5 ?k6 ?_; (case k1 => k_asm); (case k2 => k_asm); (case k3 => k_asm); (case k4 => k_is); (case k5 => k_is); (case k6 => k_is); intro x' d' h' F' N' l1 l2; k_dflt k_enter)
  refine let_env ?_
  intro env9
  k_steps
  exact hret _ _ _ _ (by k_asm) (by k_asm) ⟨_, _, _, _, rfl, rfl, l1, fun p hp => Nat.lt_trans (l1 p hp) l2⟩
theorem mk_defn (prog : Program) (w : World) : Mkr2 prog w 203 "symbol" "value" := by
  have hfill9 : PySem.Challenge.rw_on0297_01 = PySem.Challenge.rw_on0297_01 ∧ hd.heap_1 = hd.heap_1 := by
    k_fill
    exact ⟨rfl, rfl⟩
  clear hfill9
  intro v1 v2 news
  rintro p loose mean mg mb dp un gd ⟨⟨_, nm, ig, ic, mo⟩, lo, gl, ce, qu, fu, co, _, bu⟩ outer A₀ base h₀ L m s Q E rfl rfl B F X N T hd1 hu1 hret
  (refine' call_cls ?k1 ?k2 ?k3 ?k4 ?k5 ?k6 ?_; (case k1 => k_asm); (case k2 => k_asm); (case k3 => k_asm); (case k4 => k_is); (case k5 => k_is); (case k6 => k_is); intro x' d' h' F' N' l1 l2; k_dflt k_enter)
  refine let_env ?_
  intro env9
  k_steps
  exact hret _ _ _ _ (by k_asm) (by k_asm) ⟨_, _, _, _, rfl, rfl, l1, fun p hp => Nat.lt_trans (l1 p hp) l2⟩
theorem mk_iff (prog : Program) (w : World) : Mkr3 prog w 236 "test" "yes" "no" := by
  have hfill9 : PySem.Challenge.rw_on0297_01 = PySem.Challenge.rw_on0297_01 ∧ hd.heap_1 = hd.heap_1 := by
    k_fill
    exact ⟨rfl, rfl⟩
  clear hfill9
  intro v1 v2 v3 news
  rintro p loose mean mg mb dp un gd ⟨⟨_, nm, ig, ic, mo⟩, lo, gl, ce, qu, fu, co, _, bu⟩ outer A₀ base h₀ L m s Q E rfl rfl B F X N T hd1 hu1 hret
  (refine' call_cls ?k1 ?k2 ?k3 ?k4 ?k5 ?k6 ?_; (case k1 => k_asm); (case k2 => k_asm); (case k3 => k_asm); (case k4 => k_is); (case k5 => k_is); (case k6 => k_is); intro x' d' h' F' N' l1 l2; k_dflt k_enter)
  refine let_env ?_
  intro env9
  k_steps
  exact hret _ _ _ _ (by k_asm) (by k_asm) ⟨_, _, _, _, _, rfl, rfl, l1, fun p hp => Nat.lt_trans (l1 p hp) l2⟩
theorem mk_lam (prog : Program) (w : World) : Mkr4 prog w 283 "label" "params" "rest" "body" := by
  have hfill9 : PySem.Challenge.rw_on0297_01 = PySem.Challenge.rw_on0297_01 ∧ hd.heap_1 = hd.heap_1 := by
    k_fill
    exact ⟨rfl, rfl⟩
  clear hfill9
  intro v1 v2 v3 v4 news
  rintro p loose mean mg mb dp un gd ⟨⟨_, nm, ig, ic, mo⟩, lo, gl, ce, qu, fu, co, _, bu⟩ outer A₀ base h₀ L m s Q E rfl rfl B F X N T hd1 hu1 hret
  (refine' call_cls ?k1 ?k2 ?k3 ?k4 ?k5 ?k6 ?_; (case k1 => k_asm); (case k2 => k_asm); (case k3 => k_asm); (case k4 => k_is); (case k5 => k_is); (case k6 => k_is); intro x' d' h' F' N' l1 l2; k_dflt k_enter)
  refine let_env ?_
  intro env9
  k_steps
  exact hret _ _ _ _ (by k_asm) (by k_asm) ⟨_, _, _, _, _, _, rfl, rfl, l1, fun p hp => Nat.lt_trans (l1 p hp) l2⟩
theorem mk_call (prog : Program) (w : World) : Mkr2 prog w 316 "operator" "operands" := by
  have hfill9 : PySem.Challenge.rw_on0297_01 = PySem.Challenge.rw_on0297_01 ∧ hd.heap_1 = hd.heap_1 := by
    k_fill
    exact ⟨rfl, rfl⟩
  clear hfill9
  intro v1 v2 news
  rintro p loose mean mg mb dp un gd ⟨⟨_, nm, ig, ic, mo⟩, lo, gl, ce, qu, fu, co, _, bu⟩ outer A₀ base h₀ L m s Q E rfl rfl B F X N T hd1 hu1 hret
  (refine' call_cls ?k1 ?k2 ?k3 ?k4 ?k5 ?k6 ?_; (case k1 => k_asm); (case k2 => k_asm); (case k3 => k_asm); (case k4 => k_is); (case k5 => k_is); (case k6 => k_is); intro x' d' h' F' N' l1 l2; k_dflt k_enter)
  refine let_env ?_
  intro env9
  k_steps
  exact hret _ _ _ _ (by k_asm) (by k_asm) ⟨_, _, _, _, rfl, rfl, l1, fun p hp => Nat.lt_trans (l1 p hp) l2⟩
theorem mk_seq (prog : Program) (w : World) : Mkr1 prog w 349 "items" := by
  have hfill9 : PySem.Challenge.rw_on0297_01 = PySem.Challenge.rw_on0297_01 ∧ hd.heap_1 = hd.heap_1 := by
    k_fill
    exact ⟨rfl, rfl⟩
  clear hfill9
  intro v1 news
  rintro p loose mean mg mb dp un gd ⟨⟨_, nm, ig, ic, mo⟩, lo, gl, ce, qu, fu, co, _, bu⟩ outer A₀ base h₀ L m s Q E rfl rfl B F X N T hd1 hu1 hret
  (refine' call_cls ?k1 ?k2 ?k3 ?k4 ?k5 ?k6 ?_; (case k1 => k_asm); (case k2 => k_asm); (case k3 => k_asm); (case k4 => k_is); (case k5 => k_is); (case k6 => k_is); intro x' d' h' F' N' l1 l2; k_dflt k_enter)
  refine let_env ?_
  intro env9
  k_steps
  exact hret _ _ _ _ (by k_asm) (by k_asm) ⟨_, _, _, rfl, rfl, l1, fun p hp => Nat.lt_trans (l1 p hp) l2⟩
theorem mk_prim (prog : Program) (w : World) : Mkr2 prog w 382 "op" "operands" := by
  have hfill9 : PySem.Challenge.rw_on0297_01 = PySem.Challenge.rw_on0297_01 ∧ hd.heap_1 = hd.heap_1 := by
    k_fill
    exact ⟨rfl, rfl⟩
  clear hfill9
  intro v1 v2 news
  rintro p loose mean mg mb dp un gd ⟨⟨_, nm, ig, ic, mo⟩, lo, gl, ce, qu, fu, co, _, bu⟩ outer A₀ base h₀ L m s Q E rfl rfl B F X N T hd1 hu1 hret
  (refine' call_cls ?k1 ?k2 ?k3 ?k4 ?k5 ?k6 ?_; (case k1 => k_asm); (case k2 => k_asm); (case k3 => k_asm); (case k4 => k_is); (case k5 => k_is); (case k6 => k_is); intro x' d' h' F' N' l1 l2; k_dflt k_enter)
  refine let_env ?_
  intro env9
  k_steps
  exact hret _ _ _ _ (by k_asm) (by k_asm) ⟨_, _, _, _, rfl, rfl, l1, fun p hp => Nat.lt_trans (l1 p hp) l2⟩
theorem mk_fix (prog : Program) (w : World) : Mkr3 prog w 415 "numbers" "lambdas" "body" := by
  have hfill9 : PySem.Challenge.rw_on0297_01 = PySem.Challenge.rw_on0297_01 ∧ hd.heap_1 = hd.heap_1 := by
    k_fill
    exact ⟨rfl, rfl⟩
  clear hfill9
  intro v1 v2 v3 news
  rintro p loose mean mg mb dp un gd ⟨⟨_, nm, ig, ic, mo⟩, lo, gl, ce, qu, fu, co, _, bu⟩ outer A₀ base h₀ L m s Q E rfl rfl B F X N T hd1 hu1 hret
  (refine' call_cls ?k1 ?k2 ?k3 ?k4 ?k5 ?k6 ?_; (case k1 => k_asm); (case k2 => k_asm); (case k3 => k_asm); (case k4 => k_is); (case k5 => k_is); (case k6 => k_is); intro x' d' h' F' N' l1 l2; k_dflt k_enter)
  refine let_env ?_
  intro env9
  k_steps
  exact hret _ _ _ _ (by k_asm) (by k_asm) ⟨_, _, _, _, _, rfl, rfl, l1, fun p hp => Nat.lt_trans (l1 p hp) l2⟩
section
variable {prog : Program} {w : World} {p : Program} {loose : List Str} {mean : ExcName → Option Value} {mg mb : Str → Option Value} {dp un : Nat} {gd : Option (List Code)} {env : Env} {outer : List Env} {A₀ : Around} {base h₀ : Heap} {L C : Addr} {m : Str → Option Value} {s : Shared} {Q E : Value → Shared → Prop} {l : List (Addr × Obj)}
theorem mk1_use {n1 : Str} {v1 : Value} (S : Mkr1 prog w C n1) (hf : env.frame = some L) (hk : env.scope.kind = .function) (B : Below A₀ base outer h₀) (F : Fr h₀ L s.heap m) (X : (hd.heap_1 w.params).In h₀) (N : News h₀ L s.heap l) (T : Top p loose mean mg mb h₀) (hd1 : dp + 4 < 1000) (hu1 : un + 200 < 9900)
    (ret : ∀ x d t1 h' tk', Fr h₀ L h' m → News h₀ L h' ((x, instObj C d) :: (d, dictOf [fe w.params n1 t1 v1] 1) :: l) → (∀ p ∈ l, p.1 < d) → (∀ p ∈ l, p.1 < x) → Q (.ref x) { s with heap := h', toks := tk' }) : wpAny (model prog w) (arTop dp un gd env outer) (call (.ref C) [v1]) Q E s := by
  refine S v1 l _ _ _ _ _ _ _ _ _ _ _ _ _ _ _ _ _ _ hf hk B F X N T hd1 hu1 ?_
  rintro r news' h' tk' F' N' ⟨x, d, t1, rfl, rfl, l1, l2⟩
  exact ret x d t1 h' tk' F' N' l1 l2
theorem mk2_use {n1 n2 : Str} {v1 v2 : Value} (S : Mkr2 prog w C n1 n2) (hf : env.frame = some L) (hk : env.scope.kind = .function) (B : Below A₀ base outer h₀) (F : Fr h₀ L s.heap m) (X : (hd.heap_1 w.params).In h₀) (N : News h₀ L s.heap l) (T : Top p loose mean mg mb h₀) (hd1 : dp + 4 < 1000) (hu1 : un + 200 < 9900)
    (ret : ∀ x d t1 t2 h' tk', Fr h₀ L h' m → News h₀ L h' ((x, instObj C d) :: (d, dictOf [fe w.params n1 t1 v1, fe w.params n2 t2 v2] 2) :: l) → (∀ p ∈ l, p.1 < d) → (∀ p ∈ l, p.1 < x) → Q (.ref x) { s with heap := h', toks := tk' }) : wpAny (model prog w) (arTop dp un gd env outer) (call (.ref C) [v1, v2]) Q E s := by
  refine S v1 v2 l _ _ _ _ _ _ _ _ _ _ _ _ _ _ _ _ _ _ hf hk B F X N T hd1 hu1 ?_
  rintro r news' h' tk' F' N' ⟨x, d, t1, t2, rfl, rfl, l1, l2⟩
  exact ret x d t1 t2 h' tk' F' N' l1 l2
theorem mk3_use {n1 n2 n3 : Str} {v1 v2 v3 : Value} (S : Mkr3 prog w C n1 n2 n3) (hf : env.frame = some L) (hk : env.scope.kind = .function) (B : Below A₀ base outer h₀) (F : Fr h₀ L s.heap m) (X : (hd.heap_1 w.params).In h₀) (N : News h₀ L s.heap l) (T : Top p loose mean mg mb h₀) (hd1 : dp + 4 < 1000) (hu1 : un + 200 < 9900)
    (ret : ∀ x d t1 t2 t3 h' tk', Fr h₀ L h' m → News h₀ L h' ((x, instObj C d) :: (d, dictOf [fe w.params n1 t1 v1, fe w.params n2 t2 v2, fe w.params n3 t3 v3] 3) :: l) → (∀ p ∈ l, p.1 < d) → (∀ p ∈ l, p.1 < x) → Q (.ref x) { s with heap := h', toks := tk' }) : wpAny (model prog w) (arTop dp un gd env outer) (call (.ref C) [v1, v2, v3]) Q E s := by
  refine S v1 v2 v3 l _ _ _ _ _ _ _ _ _ _ _ _ _ _ _ _ _ _ hf hk B F X N T hd1 hu1 ?_
  rintro r news' h' tk' F' N' ⟨x, d, t1, t2, t3, rfl, rfl, l1, l2⟩
  exact ret x d t1 t2 t3 h' tk' F' N' l1 l2
theorem mk4_use {n1 n2 n3 n4 : Str} {v1 v2 v3 v4 : Value} (S : Mkr4 prog w C n1 n2 n3 n4) (hf : env.frame = some L) (hk : env.scope.kind = .function) (B : Below A₀ base outer h₀) (F : Fr h₀ L s.heap m) (X : (hd.heap_1 w.params).In h₀) (N : News h₀ L s.heap l) (T : Top p loose mean mg mb h₀) (hd1 : dp + 4 < 1000) (hu1 : un + 200 < 9900)
    (ret : ∀ x d t1 t2 t3 t4 h' tk', Fr h₀ L h' m → News h₀ L h' ((x, instObj C d) :: (d, dictOf [fe w.params n1 t1 v1, fe w.params n2 t2 v2, fe w.params n3 t3 v3, fe w.params n4 t4 v4] 4) :: l) → (∀ p ∈ l, p.1 < d) → (∀ p ∈ l, p.1 < x) → Q (.ref x) { s with heap := h', toks := tk' }) : wpAny (model prog w) (arTop dp un gd env outer) (call (.ref C) [v1, v2, v3, v4]) Q E s := by
  refine S v1 v2 v3 v4 l _ _ _ _ _ _ _ _ _ _ _ _ _ _ _ _ _ _ hf hk B F X N T hd1 hu1 ?_
  rintro r news' h' tk' F' N' ⟨x, d, t1, t2, t3, t4, rfl, rfl, l1, l2⟩
  exact ret x d t1 t2 t3 t4 h' tk' F' N' l1 l2
end
end
section
set_option maxHeartbeats 2000000
theorem kw20 : True := by
  k_with_none
  k_with "ke_room" => (first | ((have hcL9ZZ := cLine_is; simp only [units_in1, units_deeper, Around.mark_units, units_caller]; (try dsimp only [arTop]); omega)) | fail)
  k_with "k_units" => (first | (ke_room) | fail)
  k_with "units_room" => (first | (ke_room) | fail)
  k_with "k_room" => (first | (((try simp only [depth_under_make, depth_under_kw, depth_in1, depth_deeper, depth_caller]); (try dsimp only [arTop]); (try simp only [recursionLimit]); omega)) | fail)
  k_with "ktr_room" => (first | (k_room) | fail)
  k_with "ktr_member" => (first | (first | exact allLt_ne (by with_reducible assumption) | exact allLt_ne1 (by with_reducible assumption) | exact allLt_ne2 (by with_reducible assumption) | exact off3_I (by with_reducible assumption) | exact off3_C (by with_reducible assumption) | exact off3_D (by with_reducible assumption) | exact off1_D (by with_reducible assumption)) | fail)
  k_with "k_ne" => (first | ((refine neN ?_; (try dsimp only); first | with_reducible assumption | exact Ne.symm (by with_reducible assumption) | exact Nat.ne_of_lt (by with_reducible assumption) | exact Nat.ne_of_gt (by with_reducible assumption) | omega)) | fail)
  k_with "kst_all" => (first | (first | with_reducible assumption | ktr_member | exact off_app (by first | with_reducible assumption | ktr_member) | exact off_app (off_app (by first | with_reducible assumption | ktr_member)) | exact off_app (off_app (off_app (by first | with_reducible assumption | ktr_member)))) | fail)
  k_with "kst_mem" => (first | ((refine' fil_mem ?aQ9 ?bQ9; (case aQ9 => k_mem); (case bQ9 => k_all))) | fail)
  k_with "kst_p" => (first | ((refine' fil_tree ?aQ10 ?bQ10 ?cQ10; (case aQ10 => with_reducible assumption); (case bQ10 => tb_start); (case cQ10 => exact fr_tl (by with_reducible assumption) (by with_reducible assumption) (by with_reducible assumption) (by with_reducible assumption) (by tb_start)))) | fail)
  k_with "k_all" => (first | (first | exact List.forall_mem_nil _ | (refine' List.forall_mem_cons.mpr ⟨?aQ11, ?bQ11⟩; (case aQ11 => k_ne); (case bQ11 => k_all)) | kst_all) | fail)
  k_with "lcg_off" => (first | (first | exact True.intro | (refine And.intro ⟨?aQ12, ?bQ12, ?cQ12⟩ ?dQ12; (case aQ12 => k_ne); (case bQ12 => k_ne); (case cQ12 => k_ne); (case dQ12 => lcg_off)) | with_reducible assumption | exact off3_of (by first | with_reducible assumption | ktr_member) (by first | with_reducible assumption | ktr_member) (by first | with_reducible assumption | ktr_member)) | fail)
  k_with "tb_rel" => (first | (first | with_reducible assumption | (refine List.mem_cons_of_mem _ ?_; tb_rel) | (refine List.mem_append.mpr (Or.inr ?_); tb_rel) | (refine List.mem_append.mpr (Or.inl ?_); tb_rel)) | fail)
  k_with "tb_start" => (first | ((intro p9ZZ hp9ZZ; tb_rel)) | fail)
  k_with "tbn_lt" => (first | (first | exact Ext.head | (refine' Ext.tail ?aQ15; (case aQ15 => tbn_lt))) | fail)
  k_with "tbn_below" => (first | (first | (refine' Split.cons ?aQ16; (case aQ16 => tbn_below)) | exact Split.base) | fail)
  k_with "tbn_conj" => (first | (first | exact True.intro | (refine' And.intro ?aQ17 ?bQ17; (case aQ17 => first | with_reducible assumption | ktr_member); (case bQ17 => tbn_conj))) | fail)
  k_with "my ite" => ((k_closed; first | (refine' iteBT ?p9Q18 ?_; (case p9Q18 => decide)) | (refine' iteBF ?p9Q18 ?_; (case p9Q18 => decide))))
  k_with "my CompEnd" => ((k_here; k_dflt (refine' comp_end ?FQ19 ?NQ19 ?e1Q19 ?e2Q19 ?e3Q19 ?offQ19 ?_; (case FQ19 => k_asm); (case NQ19 => k_asm); (case e1Q19 => tbn_lt); (case e2Q19 => tbn_lt); (case e3Q19 => tbn_lt); (case offQ19 => lcg_off))))
  k_with "my CompSrc" => ((k_here; k_dflt (refine LCg.CompSrc.range (by rfl) (by k_asm) (by k_asm) (by assumption) (by first | decide | rfl) (by first | rfl | decide) (by first | size_fits | exact Nat.le_of_ble_eq_true rfl) ?_; intro g'ZZ; lcg_lit)))
  k_with "my CompRest" => ((with_unfolding_all first | (refine LCg.CompRest.succ ?_; intro v'ZZ I'ZZ oI'ZZ C'ZZ oC'ZZ D'ZZ m'ZZ h'ZZ tk'ZZ E'ZZ hv'ZZ hC'ZZ hx'ZZ F'ZZ N'ZZ off'ZZ ne'ZZ; (first | lcg_open hv'ZZ | (obtain ⟨t9'ZZ, hv9'ZZ⟩ := hv'ZZ; subst hv9'ZZ)); (try dsimp only [LCg.Off3] at off'ZZ); (refine let_goal ?_); intro G9ZZ; (repeat (with_reducible obtain ⟨⟨_, _, _⟩, off'ZZ⟩ := off'ZZ)); (obtain ⟨_, _, _⟩ := ne'ZZ); k_unfold; clear G9ZZ) | refine LCg.CompRest.zero ?_))
  k_with "my FinE" => (((unfold LCg.FinE); intro D'ZZ h'ZZ tk'ZZ F'ZZ N'ZZ o1'ZZ; (try dsimp only [LCg.Off1] at o1'ZZ); (refine let_goal ?_); intro G9ZZ; (repeat (with_reducible obtain ⟨_, o1'ZZ⟩ := o1'ZZ)); k_unfold; clear G9ZZ; (try simp only [List.nil_append, List.cons_append] at N'ZZ); (try dsimp only)))
  trivial
/-- a core node's head -/
inductive KH where
  | const (k : Int)
  | loc (n : Int)
  | glob (k : Int)
  | setl (n : Int)
  | setg (k : Int)
  | defn (k : Int)
  | iff
  | lam (l : Int) (ps : List Int) (r : Int)
  | call
  | seq
  | prim (k : Int)
  | fix (n : Int)
inductive K where
  | node (h : KH) (ks : List K)
noncomputable def KH.cls : KH → Nat
  | .const _ => 66
  | .loc _ => 85
  | .glob _ => 104
  | .setl _ => 137
  | .setg _ => 170
  | .defn _ => 203
  | .iff => 236
  | .lam .. => 283
  | .call => 316
  | .seq => 349
  | .prim _ => 382
  | .fix _ => 415
noncomputable def ConstV (k : Int) (v : Value) : Prop := (k = 0 ∧ ∃ t, v = .int 5 t) ∨ (k = 1 ∧ v = .bool true) ∨ (k = 2 ∧ ∃ t, v = .int 1 t)
/-- a node's dict, and its parts -/
noncomputable def FldIn (P : Params) (news : List (Addr × Obj)) : KH → Obj → List Value → Prop
  | .const k, o, vs => ∃ v t1, ConstV k v ∧ o = dictOf [fe P "value" t1 v] 1 ∧ vs = []
  | .loc n, o, vs => ∃ t t1, o = dictOf [fe P "number" t1 (.int n t)] 1 ∧ vs = []
  | .glob k, o, vs => ∃ t t1, o = dictOf [fe P "symbol" t1 (.int k t)] 1 ∧ vs = []
  | .setl n, o, vs => ∃ c t t1 t2, o = dictOf [fe P "number" t1 (.int n t), fe P "value" t2 c] 2 ∧ vs = [c]
  | .setg k, o, vs => ∃ c t t1 t2, o = dictOf [fe P "symbol" t1 (.int k t), fe P "value" t2 c] 2 ∧ vs = [c]
  | .defn k, o, vs => ∃ c t t1 t2, o = dictOf [fe P "symbol" t1 (.int k t), fe P "value" t2 c] 2 ∧ vs = [c]
  | .iff, o, vs => ∃ c1 c2 c3 t1 t2 t3, o = dictOf [fe P "test" t1 c1, fe P "yes" t2 c2, fe P "no" t3 c3] 3 ∧ vs = [c1, c2, c3]
  | .lam l ps r, o, vs => ∃ c q us n t u t1 t2 t3 t4, o = dictOf [fe P "label" t1 (.int l t), fe P "params" t2 (.ref q), fe P "rest" t3 (.int r u), fe P "body" t4 c] 4 ∧ (q, listOf us.toArray n) ∈ news ∧ IntsAre us ps ∧ ps.length ≤ 3 ∧ vs = [c]
  | .call, o, vs => ∃ c q cs n t1 t2, o = dictOf [fe P "operator" t1 c, fe P "operands" t2 (.ref q)] 2 ∧ (q, listOf cs.toArray n) ∈ news ∧ vs = [c] ++ cs
  | .seq, o, vs => ∃ q n t1, o = dictOf [fe P "items" t1 (.ref q)] 1 ∧ (q, listOf vs.toArray n) ∈ news
  | .prim k, o, vs => ∃ q n t t1 t2, o = dictOf [fe P "op" t1 (.int k t), fe P "operands" t2 (.ref q)] 2 ∧ (q, listOf vs.toArray n) ∈ news
  | .fix k, o, vs => ∃ c q us n q2 cs n2 t1 t2 t3, o = dictOf [fe P "numbers" t1 (.ref q), fe P "lambdas" t2 (.ref q2), fe P "body" t3 c] 3 ∧ (q, listOf us.toArray n) ∈ news ∧ IntsAre us [k] ∧ (q2, listOf cs.toArray n2) ∈ news ∧ vs = cs ++ [c]
mutual
/-- the ledger bears the core node k at v -/
noncomputable def NodeIn (P : Params) (news : List (Addr × Obj)) : K → Value → Prop
  | .node h ks, v => ∃ a d o vs, v = .ref a ∧ (a, instObj h.cls d) ∈ news ∧ (d, o) ∈ news ∧ FldIn P news h o vs ∧ NodesIn P news ks vs
noncomputable def NodesIn (P : Params) (news : List (Addr × Obj)) : List K → List Value → Prop
  | [], vs => vs = []
  | k :: ks, vs => ∃ v r, vs = v :: r ∧ NodeIn P news k v ∧ NodesIn P news ks r
end
section
variable {P : Params} {news news' : List (Addr × Obj)}
theorem NodeIn.mk {h : KH} {ks : List K} {a d : Nat} {o : Obj} {vs : List Value} (h1 : (a, instObj h.cls d) ∈ news) (h2 : (d, o) ∈ news) (h3 : FldIn P news h o vs) (h4 : NodesIn P news ks vs) : NodeIn P news (.node h ks) (.ref a) := by
  unfold NodeIn
  exact ⟨a, d, o, vs, rfl, h1, h2, h3, h4⟩
theorem NodeIn.inv {h : KH} {ks : List K} {v : Value} (x : NodeIn P news (.node h ks) v) : ∃ a d o vs, v = .ref a ∧ (a, instObj h.cls d) ∈ news ∧ (d, o) ∈ news ∧ FldIn P news h o vs ∧ NodesIn P news ks vs := by
  unfold NodeIn at x; exact x
theorem NodesIn.nil : NodesIn P news [] [] := by unfold NodesIn; rfl
theorem NodesIn.cons {k : K} {ks : List K} {v : Value} {vs : List Value} (h : NodeIn P news k v) (g : NodesIn P news ks vs) : NodesIn P news (k :: ks) (v :: vs) := by unfold NodesIn; exact ⟨v, vs, rfl, h, g⟩
theorem NodesIn.inv {k : K} {ks : List K} {vs : List Value} (h : NodesIn P news (k :: ks) vs) : ∃ v r, vs = v :: r ∧ NodeIn P news k v ∧ NodesIn P news ks r := by unfold NodesIn at h; exact h
theorem NodesIn.inv0 {vs : List Value} (h : NodesIn P news [] vs) : vs = [] := by unfold NodesIn at h; exact h
theorem FldIn.mono (hs : ∀ p ∈ news, p ∈ news') {h : KH} {o : Obj} {vs : List Value} (x : FldIn P news h o vs) : FldIn P news' h o vs := by
  cases h with
  | lam l ps r => obtain ⟨c, q, us, n, t, u, t1, t2, t3, t4, e, h1, h2, h3, h4⟩ := x; exact ⟨c, q, us, n, t, u, t1, t2, t3, t4, e, hs _ h1, h2, h3, h4⟩
  | call => obtain ⟨c, q, cs, n, t1, t2, e, h1, h2⟩ := x; exact ⟨c, q, cs, n, t1, t2, e, hs _ h1, h2⟩
  | seq => obtain ⟨q, n, t1, e, h1⟩ := x; exact ⟨q, n, t1, e, hs _ h1⟩
  | prim k => obtain ⟨q, n, t, t1, t2, e, h1⟩ := x; exact ⟨q, n, t, t1, t2, e, hs _ h1⟩
  | fix k => obtain ⟨c, q, us, n, q2, cs, n2, t1, t2, t3, e, h1, h2, h3, h4⟩ := x; exact ⟨c, q, us, n, q2, cs, n2, t1, t2, t3, e, hs _ h1, h2, hs _ h3, h4⟩
  | _ => exact x
mutual
theorem NodeIn.mono (hs : ∀ p ∈ news, p ∈ news') : ∀ (k : K) (v : Value), NodeIn P news k v → NodeIn P news' k v
  | .node h ks, v, x => by
    obtain ⟨a, d, o, vs, rfl, h1, h2, h3, h4⟩ := x.inv
    exact .mk (hs _ h1) (hs _ h2) (h3.mono hs) (NodesIn.mono hs ks vs h4)
theorem NodesIn.mono (hs : ∀ p ∈ news, p ∈ news') : ∀ (ks : List K) (vs : List Value), NodesIn P news ks vs → NodesIn P news' ks vs
  | [], vs, x => by rw [x.inv0]; exact .nil
  | k :: ks, vs, x => by
    obtain ⟨v, r, rfl, h1, h2⟩ := x.inv
    exact .cons (NodeIn.mono hs k v h1) (NodesIn.mono hs ks r h2)
end
theorem NodesIn.snoc {k : K} {v : Value} : ∀ {ks : List K} {vs : List Value}, NodesIn P news ks vs → NodeIn P news k v → NodesIn P news (ks ++ [k]) (vs ++ [v])
  | [], vs, x, g => by rw [x.inv0]; exact .cons g .nil
  | _ :: ks, vs, x, g => by
    obtain ⟨v, r, rfl, h1, h2⟩ := x.inv
    exact .cons h1 (h2.snoc g)
theorem NodesIn.length : ∀ {ks : List K} {vs : List Value}, NodesIn P news ks vs → vs.length = ks.length
  | [], vs, x => by rw [x.inv0]; rfl
  | _ :: ks, vs, x => by
    obtain ⟨v, r, rfl, h1, h2⟩ := x.inv
    rw [List.length_cons, List.length_cons, h2.length]
end
/-- all of a ledger stands in another or lies off it -/
theorem all_fil {h₀ h : Heap} {L : Addr} {imm l9 : List (Addr × Obj)} (N : News h₀ L h l9) (sub : ∀ p ∈ imm, p ∈ l9) : ∀ p ∈ l9, p ∈ fil imm l9 ++ imm := fun e he => by
  by_cases hf : ∀ q ∈ imm, q.1 ≠ e.1
  · exact List.mem_append_left _ (fil_mem he hf)
  · obtain ⟨q, hq⟩ := Classical.not_forall.mp hf
    obtain ⟨hq, x⟩ := Classical.not_imp.mp hq
    have x : q.1 = e.1 := Classical.not_not.mp x
    have g1 := (N _ he).1
    have g2 := (N _ (sub _ hq)).1
    rw [x, g1] at g2
    have g3 : e = q := Prod.ext x.symm (Option.some.inj g2)
    rw [g3]; exact List.mem_append_right _ hq
/-- the numbers that the law's node gives -/
noncomputable def num (sh k : Int) : Int := (k * 7 + sh).fmod 91
noncomputable def lab (sh k : Int) : Int := (k * 5 + sh).fmod 91
noncomputable def coreH (sh : Int) : Hd → KH
  | .s w k => if w == ("const" : Str) then .const k else if w == ("local" : Str) then .loc (num sh k) else if w == ("setlocal" : Str) then .setl (num sh k) else if w == ("global" : Str) then .glob k else if w == ("setglobal" : Str) then (if k < 2 then .setg k else .defn k) else if w == ("if" : Str) then .iff else if w == ("call" : Str) then .call else if w == ("seq" : Str) then .seq else .prim k
  | .lam l ps r => .lam (lab sh l) (ps.map (num sh)) (if r < 0 then -1 else num sh r)
  | .fix k => .fix (num sh k)
mutual
noncomputable def core (sh : Int) : T → K
  | .node h ts => .node (coreH sh h) (cores sh ts)
noncomputable def cores (sh : Int) : List T → List K
  | [] => []
  | t :: ts => core sh t :: cores sh ts
end
end
section
set_option maxHeartbeats 6000000
theorem kw22 : True := by
  k_with_none
  k_with "ke_room" => (first | ((have hcL9ZZ := cLine_is; simp only [units_in1, units_deeper, Around.mark_units, units_caller]; (try dsimp only [arTop]); omega)) | fail)
  k_with "k_units" => (first | (ke_room) | fail)
  k_with "units_room" => (first | (ke_room) | fail)
  k_with "k_room" => (first | (((try simp only [depth_under_make, depth_under_kw, depth_in1, depth_deeper, depth_caller]); (try dsimp only [arTop]); (try simp only [recursionLimit]); omega)) | fail)
  k_with "ktr_room" => (first | (k_room) | fail)
  k_with "ktr_member" => (first | (first | exact allLt_ne (by with_reducible assumption) | exact allLt_ne1 (by with_reducible assumption) | exact allLt_ne2 (by with_reducible assumption) | exact off3_I (by with_reducible assumption) | exact off3_C (by with_reducible assumption) | exact off3_D (by with_reducible assumption) | exact off1_D (by with_reducible assumption)) | fail)
  k_with "k_ne" => (first | ((refine neN ?_; (try dsimp only); first | with_reducible assumption | exact Ne.symm (by with_reducible assumption) | exact Nat.ne_of_lt (by with_reducible assumption) | exact Nat.ne_of_gt (by with_reducible assumption) | omega)) | fail)
  k_with "kst_all" => (first | (first | with_reducible assumption | ktr_member | exact off_app (by first | with_reducible assumption | ktr_member) | exact off_app (off_app (by first | with_reducible assumption | ktr_member)) | exact off_app (off_app (off_app (by first | with_reducible assumption | ktr_member)))) | fail)
  k_with "kst_mem" => (first | ((refine' fil_mem ?aQ9 ?bQ9; (case aQ9 => k_mem); (case bQ9 => k_all))) | fail)
  k_with "kst_p" => (first | ((refine' fil_tree ?aQ10 ?bQ10 ?cQ10; (case aQ10 => with_reducible assumption); (case bQ10 => tb_start); (case cQ10 => exact fr_tl (by with_reducible assumption) (by with_reducible assumption) (by with_reducible assumption) (by with_reducible assumption) (by tb_start)))) | fail)
  k_with "k_all" => (first | (first | exact List.forall_mem_nil _ | (refine' List.forall_mem_cons.mpr ⟨?aQ11, ?bQ11⟩; (case aQ11 => k_ne); (case bQ11 => k_all)) | kst_all) | fail)
  k_with "lcg_off" => (first | (first | exact True.intro | (refine And.intro ⟨?aQ12, ?bQ12, ?cQ12⟩ ?dQ12; (case aQ12 => k_ne); (case bQ12 => k_ne); (case cQ12 => k_ne); (case dQ12 => lcg_off)) | with_reducible assumption | exact off3_of (by first | with_reducible assumption | ktr_member) (by first | with_reducible assumption | ktr_member) (by first | with_reducible assumption | ktr_member)) | fail)
  k_with "tb_rel" => (first | (first | with_reducible assumption | (refine List.mem_cons_of_mem _ ?_; tb_rel) | (refine List.mem_append.mpr (Or.inr ?_); tb_rel) | (refine List.mem_append.mpr (Or.inl ?_); tb_rel)) | fail)
  k_with "tb_start" => (first | ((intro p9ZZ hp9ZZ; tb_rel)) | fail)
  k_with "tbn_lt" => (first | (first | exact Ext.head | (refine' Ext.tail ?aQ15; (case aQ15 => tbn_lt))) | fail)
  k_with "tbn_below" => (first | (first | (refine' Split.cons ?aQ16; (case aQ16 => tbn_below)) | exact Split.base) | fail)
  k_with "tbn_conj" => (first | (first | exact True.intro | (refine' And.intro ?aQ17 ?bQ17; (case aQ17 => first | with_reducible assumption | ktr_member); (case bQ17 => tbn_conj))) | fail)
  k_with "my ite" => ((k_closed; first | (refine' iteBT ?p9Q18 ?_; (case p9Q18 => decide)) | (refine' iteBF ?p9Q18 ?_; (case p9Q18 => decide))))
  k_with "my CompEnd" => ((k_here; k_dflt (refine' comp_end ?FQ19 ?NQ19 ?e1Q19 ?e2Q19 ?e3Q19 ?offQ19 ?_; (case FQ19 => k_asm); (case NQ19 => k_asm); (case e1Q19 => tbn_lt); (case e2Q19 => tbn_lt); (case e3Q19 => tbn_lt); (case offQ19 => lcg_off))))
  k_with "my CompSrc" => ((k_here; k_dflt (refine LCg.CompSrc.range (by rfl) (by k_asm) (by k_asm) (by assumption) (by first | decide | rfl) (by first | rfl | decide) (by first | size_fits | exact Nat.le_of_ble_eq_true rfl) ?_; intro g'ZZ; lcg_lit)))
  k_with "my CompRest" => ((with_unfolding_all first | (refine LCg.CompRest.succ ?_; intro v'ZZ I'ZZ oI'ZZ C'ZZ oC'ZZ D'ZZ m'ZZ h'ZZ tk'ZZ E'ZZ hv'ZZ hC'ZZ hx'ZZ F'ZZ N'ZZ off'ZZ ne'ZZ; (first | lcg_open hv'ZZ | (obtain ⟨t9'ZZ, hv9'ZZ⟩ := hv'ZZ; subst hv9'ZZ)); (try dsimp only [LCg.Off3] at off'ZZ); (refine let_goal ?_); intro G9ZZ; (repeat (with_reducible obtain ⟨⟨_, _, _⟩, off'ZZ⟩ := off'ZZ)); (obtain ⟨_, _, _⟩ := ne'ZZ); k_unfold; clear G9ZZ) | refine LCg.CompRest.zero ?_))
  k_with "my FinE" => (((unfold LCg.FinE); intro D'ZZ h'ZZ tk'ZZ F'ZZ N'ZZ o1'ZZ; (try dsimp only [LCg.Off1] at o1'ZZ); (refine let_goal ?_); intro G9ZZ; (repeat (with_reducible obtain ⟨_, o1'ZZ⟩ := o1'ZZ)); k_unfold; clear G9ZZ; (try simp only [List.nil_append, List.cons_append] at N'ZZ); (try dsimp only)))
  trivial
/-- what the walk of _law_node leaves -/
noncomputable def NodePost (P : Params) (k : K) (imm : List (Addr × Obj)) (r : Value) (news' : List (Addr × Obj)) : Prop :=
  ∃ tl, news' = tl ++ imm ∧ (∀ p ∈ tl, ∀ q ∈ imm, q.1 ≠ p.1) ∧ NodeIn P tl k r
noncomputable def NodeSpec (prog : Program) (w : World) (t : T) : Prop :=
  ∀ (sh : Int) (tk : Tok) (v : Value) (imm : List (Addr × Obj)), TreeIn imm t v → t.wf 3 → (0 ≤ sh ∧ sh < 91) →
   CallsTo prog w (hd.heap_1 w.params) 817 [v, .int sh tk] imm (t.depth + 10) (20 * t.depth + 400) (NodePost w.params (core sh t) imm)
section
variable {prog : Program} {w : World} {p : Program} {loose : List Str} {mean : ExcName → Option Value} {mg mb : Str → Option Value} {dp un : Nat} {gd : Option (List Code)} {env : Env} {outer : List Env} {A₀ : Around} {base h₀ : Heap} {L : Addr} {m : Str → Option Value} {s : Shared} {Q E : Value → Shared → Prop} {l imm : List (Addr × Obj)}
theorem node_use {sh : Int} {tk : Tok} {v : Value} {t : T} (S : NodeSpec prog w t)
    (hf : env.frame = some L) (hk : env.scope.kind = .function) (B : Below A₀ base outer h₀) (F : Fr h₀ L s.heap m) (X : (hd.heap_1 w.params).In h₀) (N : News h₀ L s.heap l) (T : Top p loose mean mg mb h₀)
    (sub : ∀ p ∈ imm, p ∈ l) (ht : TreeIn imm t v) (hw : t.wf 3) (hs : 0 ≤ sh ∧ sh < 91)
    (hd1 : dp + (t.depth + 10) < 1000) (hu1 : un + (20 * t.depth + 400) < 9900)
    (ret : ∀ r tl h' tk', Fr h₀ L h' m → News h₀ L h' (tl ++ l) → (∀ p ∈ tl, ∀ q ∈ l, q.1 ≠ p.1) → NodeIn w.params tl (core sh t) r → Q r { s with heap := h', toks := tk' }) :
    wpAny (model prog w) (arTop dp un gd env outer) (call (.ref 817) [v, .int sh tk]) Q E s := by
  refine S sh tk v l (.mono sub _ _ ht) hw hs _ _ _ _ _ _ _ _ _ _ _ _ _ _ _ _ _ _ hf hk B F X N T hd1 hu1 ?_
  rintro r news' h' tk' F' N' ⟨tl, rfl, h1, h2⟩
  exact ret r tl h' tk' F' N' h1 h2
theorem node_fin {k : K} {l9 : List (Addr × Obj)} {r : Value} {h' : Heap} {tk' : Nat} (hret : ∀ r news' h' tk', Fr h₀ L h' m → News h₀ L h' news' → NodePost w.params k imm r news' → Q r { s with heap := h', toks := tk' }) (F : Fr h₀ L h' m) (N : News h₀ L h' l9)
    (sub : ∀ p ∈ imm, p ∈ l9) (hk : NodeIn w.params (fil imm l9) k r) : Q r { s with heap := h', toks := tk' } :=
  hret r _ h' tk' F (news_app (news_sub N fil_sub) (news_sub N sub)) ⟨fil imm l9, rfl, fil_fresh, hk⟩
end
/-- between the turns: the nodes of the parts so far -/
structure NodesInv (P : Params) (sh : Int) (ts : List T) (l0 : List (Addr × Obj)) (i : Nat) (ys : List Value) (tl : List (Addr × Obj)) : Prop where
  nodes : NodesIn P tl (cores sh (ts.take i)) ys
  fresh : ∀ p ∈ tl, ∀ q ∈ l0, q.1 ≠ p.1
theorem TreesIn.at {news : List (Addr × Obj)} : ∀ {ts : List T} {vs : List Value} {i : Nat} {v : Value}, TreesIn news ts vs → vs[i]? = some v → ∃ t, t ∈ ts ∧ ts[i]? = some t ∧ TreeIn news t v
  | [], vs, i, v, x, e => by rw [x.inv0] at e; cases e
  | t :: ts, vs, i, v, x, e => by
    obtain ⟨v', r, rfl, h1, h2⟩ := x.inv
    cases i with
    | zero => cases e; exact ⟨t, .head _, rfl, h1⟩
    | succ i =>
      obtain ⟨t', k1, k2, k3⟩ := h2.at (i := i) e
      exact ⟨t', .tail _ k1, k2, k3⟩
theorem cores_snoc {sh : Int} : ∀ {ts : List T} {t : T}, cores sh (ts ++ [t]) = cores sh ts ++ [core sh t]
  | [], _ => rfl
  | _ :: ts, t => by rw [List.cons_append, cores, cores, cores_snoc]; rfl
theorem take_snoc {α : Type} {l : List α} {i : Nat} {x : α} (h : l[i]? = some x) : l.take (i + 1) = l.take i ++ [x] := by
  rw [List.take_succ, h]; rfl
/-- a turn more: the node of the next part -/
theorem NodesInv.next {P : Params} {sh : Int} {ts : List T} {l0 tl tl' l : List (Addr × Obj)} {i : Nat} {ys : List Value} {t : T} {y : Value} (h : NodesInv P sh ts l0 i ys tl) (he : ts[i]? = some t) (hk : NodeIn P tl' (core sh t) y) (hf : ∀ p ∈ tl', ∀ q ∈ l, q.1 ≠ p.1) (hs : ∀ p ∈ l0, p ∈ l) :
    NodesInv P sh ts l0 (i + 1) (ys ++ [y]) (tl' ++ tl) := by
  refine ⟨?_, fun p hp q hq => (List.mem_append.mp hp).elim (fun h1 => hf p h1 q (hs q hq)) fun h1 => h.fresh p h1 q hq⟩
  rw [take_snoc he, cores_snoc]
  exact (NodesIn.mono (fun p hp => List.mem_append_right _ hp) _ _ h.nodes).snoc (NodeIn.mono (fun p hp => List.mem_append_left _ hp) _ _ hk)
theorem T.mem_depth {h : Hd} : ∀ {ts : List T} {t : T}, t ∈ ts → t.depth ≤ T.depths ts
  | _ :: _, _, .head _ => by rw [T.depths]; exact Nat.le_max_left _ _
  | _ :: _, _, .tail _ h' => by rw [T.depths]; exact Nat.le_trans (T.mem_depth (h := h) h') (Nat.le_max_right _ _)
theorem T.mem_wf {c : Nat} : ∀ {ts : List T} {t : T}, T.wfs c ts → t ∈ ts → t.wf c
  | _ :: _, _, x, .head _ => by unfold T.wfs at x; exact x.1
  | _ :: _, _, x, .tail _ h' => by unfold T.wfs at x; exact T.mem_wf x.2 h'
theorem room_in {dp : Nat} {h : Hd} {ts : List T} {t : T} (x : dp + ((T.node h ts).depth + 10) < 1000) (ht : t ∈ ts) : dp + 1 + (t.depth + 10) < 1000 := by have := T.mem_depth (h := h) ht; rw [T.depth] at x; omega
theorem un_in {un u : Nat} {h : Hd} {ts : List T} {t : T} (x : un + (20 * (T.node h ts).depth + 400) < 9900) (ht : t ∈ ts) (k : u ≤ un + 20) : u + (20 * t.depth + 400) < 9900 := by have := T.mem_depth (h := h) ht; rw [T.depth] at x; omega
theorem fresh_imm {D : Nat} {nw imm : List (Addr × Obj)} (l1 : ∀ p ∈ nw, p.1 < D) (sub : ∀ p ∈ imm, p ∈ nw) : ∀ q ∈ imm, q.1 ≠ D := fun q hq => Nat.ne_of_lt (l1 q (sub q hq))
theorem fil_nodes {P : Params} {l0 tl imm l9 : List (Addr × Obj)} {ks : List K} {ys : List Value} (h : NodesIn P tl ks ys) (hf : ∀ p ∈ tl, ∀ q ∈ l0, q.1 ≠ p.1) (s1 : ∀ p ∈ tl, p ∈ l9) (s2 : ∀ p ∈ imm, p ∈ l0) : NodesIn P (fil imm l9) ks ys :=
  NodesIn.mono (fun p hp => fil_mem (s1 p hp) fun q hq => hf p hp q (s2 q hq)) _ _ h
theorem node_ih {prog : Program} {w : World} {ts : List T} {t : T} (h : ∀ t ∈ ts, NodeSpec prog w t) (k : t ∈ ts) : NodeSpec prog w t := h t k
theorem pick_from1 {ys : List Value} : kms_pick ys.toArray.toList (some 1) none = ys.drop 1 := by
  unfold kms_pick kms_lo kms_hi
  have e : min (1 : Int).toNat ys.toArray.toList.length = min 1 ys.length := rfl
  simp only [show ¬ ((1 : Int) < 0) by decide, if_false, e]
  cases ys with
  | nil => rfl
  | cons y r =>
    rw [List.length_cons, Nat.min_eq_left (Nat.succ_le_succ (Nat.zero_le _)), List.drop_one]
    show r.take _ = r
    exact List.take_of_length_le (by simp)
theorem pick_to1 {ys : List Value} : kms_pick ys.toArray.toList none (some 1) = ys.take 1 := by
  unfold kms_pick kms_lo kms_hi
  have e : min (1 : Int).toNat ys.toArray.toList.length = min 1 ys.length := rfl
  simp only [show ¬ ((1 : Int) < 0) by decide, if_false, e]
  cases ys with
  | nil => rfl
  | cons y r => rw [List.length_cons, Nat.min_eq_left (Nat.succ_le_succ (Nat.zero_le _))]; rfl
theorem size_le {ys : List Value} (h : ys.length ≤ 3) : ys.toArray.size ≤ sizeLine := by rw [List.size_toArray, PySem.sizeLine_eq]; omega
section
variable {prog : Program} {w : World} {A : Around} {h₀ : Heap} {L : Addr} {s : Shared} {Q : Value → Shared → Prop} {E : Value → Shared → Prop} {news : List (Addr × Obj)}
theorem item_nth {value slice : PySem.Expr} {l : Addr} {ys : List Value} {n : Nat} {k : Nat} {u : Tok} (N : News h₀ L s.heap news) (hm : (l, listOf ys.toArray n) ∈ news) (hk : k < ys.length) (hs3 : ys.length ≤ 3) (h : Q ((nthV ys k).getD .none) s)
    (hs : subscripted slice false (.ref l) (.int (k : Nat) u) = operate [.ref l, .int (k : Nat) u] (getItem (.ref l) (.int (k : Nat) u))) : wpAny (model prog w) A (subscriptTail value slice (.ref l) (.int (k : Nat) u)) Q E s := by
  refine item_lst N hm (Int.natCast_nonneg _) (by omega) (v := (nthV ys k).getD .none) ?_ h hs
  rw [Int.toNat_natCast, nthV_eq]
  show ys[k]? = _
  rw [List.getElem?_eq_getElem hk]; rfl
theorem item3c {value slice : PySem.Expr} {l n : Nat} {t0 t2 : Tok} {k : Int} {u : Tok} (N : News h₀ L s.heap news) (hm : (l, listOf #[.int 5 t0, .bool true, .int 1 t2] n) ∈ news) (h0 : in3 k)
    (h : ∀ v, ConstV k v → Q v s)
    (hs : subscripted slice false (.ref l) (.int k u) = operate [.ref l, .int k u] (getItem (.ref l) (.int k u))) : wpAny (model prog w) A (subscriptTail value slice (.ref l) (.int k u)) Q E s := by
  obtain ⟨a, b⟩ := h0
  have hk : k = 0 ∨ k = 1 ∨ k = 2 := by omega
  rcases hk with rfl | rfl | rfl
  · exact item_lst N hm (by decide) (by decide) rfl (h _ (.inl ⟨rfl, _, rfl⟩)) hs
  · exact item_lst N hm (by decide) (by decide) rfl (h _ (.inr (.inl ⟨rfl, rfl⟩))) hs
  · exact item_lst N hm (by decide) (by decide) rfl (h _ (.inr (.inr ⟨rfl, _, rfl⟩))) hs
end
theorem cores_len {sh : Int} : ∀ {ts : List T}, (cores sh ts).length = ts.length
  | [] => rfl
  | _ :: ts => by rw [cores, List.length_cons, List.length_cons, cores_len]
theorem len_of {c : Nat} {h : Hd} {ts : List T} {ys : List Value} {P : Params} {tl : List (Addr × Obj)} {sh : Int} (x : wfh c h ts.length) (y : NodesIn P tl (cores sh ts) ys) : wfh c h ys.length := by
  rw [y.length, cores_len]; exact x
/-- how many parts a word has -/
theorem n_setl {c n : Nat} {w : Str} {k : Int} (x : wfh c (.s w k) n) (h : (w == Str.ofString "setlocal") = true) : n = 1 := by
  obtain rfl := eq_of_beq h
  rcases x.2 with ⟨y, _⟩ | ⟨_, y⟩ | ⟨y, _⟩ | ⟨y, _⟩ | ⟨y, _⟩ <;> first | exact y | (exfalso; revert y; decide +kernel)
theorem n_setg {c n : Nat} {w : Str} {k : Int} (x : wfh c (.s w k) n) (h : (w == Str.ofString "setglobal") = true) : n = 1 := by
  obtain rfl := eq_of_beq h
  rcases x.2 with ⟨y, _⟩ | ⟨_, y⟩ | ⟨y, _⟩ | ⟨y, _⟩ | ⟨y, _⟩ <;> first | exact y | (exfalso; revert y; decide +kernel)
theorem n_if {c n : Nat} {w : Str} {k : Int} (x : wfh c (.s w k) n) (h : (w == Str.ofString "if") = true) : n = 3 := by
  obtain rfl := eq_of_beq h
  rcases x.2 with ⟨y, _⟩ | ⟨y, _⟩ | ⟨_, y⟩ | ⟨y, _⟩ | ⟨y, _⟩ <;> first | exact y | (exfalso; revert y; decide +kernel)
theorem n_call {c n : Nat} {w : Str} {k : Int} (x : wfh c (.s w k) n) (h : (w == Str.ofString "call") = true) : 1 ≤ n := by
  obtain rfl := eq_of_beq h
  rcases x.2 with ⟨y, _⟩ | ⟨y, _⟩ | ⟨y, _⟩ | ⟨_, y, _⟩ | ⟨y, _⟩ <;> first | exact y | (exfalso; revert y; decide +kernel)
theorem n_leaf {c n : Nat} {w : Str} {k : Int} (x : wfh c (.s w k) n) (h : (w == Str.ofString "const") = true ∨ (w == Str.ofString "local") = true ∨ (w == Str.ofString "global") = true) : n = 0 := by
  rcases h with h | h | h <;> obtain rfl := eq_of_beq h <;> rcases x.2 with ⟨_, y⟩ | ⟨y, _⟩ | ⟨y, _⟩ | ⟨y, _⟩ | ⟨y, _⟩ <;> first | exact y | (exfalso; revert y; decide +kernel)
theorem lt_setl {n : Nat} {w : Str} {k : Int} (h : (w == Str.ofString "setlocal") = true) (x : wfh 3 (.s w k) n) : 0 < n := by rw [n_setl x h]; decide
theorem lt_setg {n : Nat} {w : Str} {k : Int} (h : (w == Str.ofString "setglobal") = true) (x : wfh 3 (.s w k) n) : 0 < n := by rw [n_setg x h]; decide
theorem lt_if0 {n : Nat} {w : Str} {k : Int} (h : (w == Str.ofString "if") = true) (x : wfh 3 (.s w k) n) : 0 < n := by rw [n_if x h]; decide
theorem lt_if1 {n : Nat} {w : Str} {k : Int} (h : (w == Str.ofString "if") = true) (x : wfh 3 (.s w k) n) : 1 < n := by rw [n_if x h]; decide
theorem lt_if2 {n : Nat} {w : Str} {k : Int} (h : (w == Str.ofString "if") = true) (x : wfh 3 (.s w k) n) : 2 < n := by rw [n_if x h]; decide
theorem lt_lam {n : Nat} {l r : Int} {ps : List Int} (x : wfh 3 (.lam l ps r) n) : 0 < n := by rw [x.2.2.2.2]; decide
theorem lt_fix {n : Nat} {k : Int} (x : wfh 3 (.fix k) n) : 1 < n := by rw [x.2]; decide
theorem lt_call {n : Nat} {w : Str} {k : Int} (h : (w == Str.ofString "call") = true) (x : wfh 3 (.s w k) n) : 0 < n := n_call x h
section
variable {P : Params} {h₀ : Heap} {L : Addr} {m : Str → Option Value} {s : Shared} {Q : Value → Shared → Prop} {l9 nw l0 tl imm : List (Addr × Obj)}
theorem node_end {w : World} {sh : Int} {h : Hd} {ts : List T} (kh : KH) {x d : Nat} {o : Obj} {ys : List Value} {h' : Heap} {tk' : Nat} (hret : ∀ r news' h' tk', Fr h₀ L h' m → News h₀ L h' news' → NodePost w.params (core sh (.node h ts)) imm r news' → Q r { s with heap := h', toks := tk' }) (F : Fr h₀ L h' m) (N : News h₀ L h' l9)
    (sub : ∀ p ∈ imm, p ∈ l9) (e : coreH sh h = kh) (m1 : (x, instObj kh.cls d) ∈ l9) (m2 : (d, o) ∈ l9) (l1 : ∀ p ∈ nw, p.1 < d) (l2 : ∀ p ∈ nw, p.1 < x) (sn : ∀ p ∈ imm, p ∈ nw) (hfl : FldIn w.params (fil imm l9) kh o ys)
    (hn : NodesIn w.params tl (cores sh ts) ys) (hf : ∀ p ∈ tl, ∀ q ∈ l0, q.1 ≠ p.1) (s1 : ∀ p ∈ tl, p ∈ l9) (s2 : ∀ p ∈ imm, p ∈ l0) : Q (.ref x) { s with heap := h', toks := tk' } := by
  refine node_fin hret F N sub ?_
  unfold core
  rw [e]
  exact .mk (fil_mem m1 (fresh_imm l2 sn)) (fil_mem m2 (fresh_imm l1 sn)) hfl (fil_nodes hn hf s1 s2)
theorem fresh_off {D : Nat} {nw : List (Addr × Obj)} (o1 : LCg.Off1 D nw) (sub : ∀ p ∈ imm, p ∈ nw) : ∀ q ∈ imm, q.1 ≠ D := fun q hq => off1_D o1 q (sub q hq)
end
theorem nil_of {ys : List Value} (h : ys.length = 0) : ys = [] := List.length_eq_zero_iff.mp h
theorem one_of {ys : List Value} (h : ys.length = 1) : ys = [(nthV ys 0).getD .none] := by
  match ys, h with
  | [y], _ => rfl
theorem three_of {ys : List Value} (h : ys.length = 3) : ys = [(nthV ys 0).getD .none, (nthV ys 1).getD .none, (nthV ys 2).getD .none] := by
  match ys, h with
  | [y, y1, y2], _ => rfl
theorem cons_of {ys : List Value} (h : 1 ≤ ys.length) : ys = [(nthV ys 0).getD .none] ++ ys.drop 1 := by
  match ys, h with
  | y :: r, _ => rfl
section
variable {sh : Int} {w : Str} {k : Int}
theorem ch_const (h : (w == Str.ofString "const") = true) : coreH sh (.s w k) = .const k := by unfold coreH; dsimp only; rw [if_pos h]
theorem ch_loc (h0 : (w == Str.ofString "const") = false) (h : (w == Str.ofString "local") = true) : coreH sh (.s w k) = .loc (num sh k) := by unfold coreH; dsimp only; rw [if_neg (by rw [h0]; decide), if_pos h]
theorem ch_setl (h0 : (w == Str.ofString "const") = false) (h1 : (w == Str.ofString "local") = false) (h : (w == Str.ofString "setlocal") = true) : coreH sh (.s w k) = .setl (num sh k) := by
  unfold coreH; dsimp only; rw [if_neg (by rw [h0]; decide), if_neg (by rw [h1]; decide), if_pos h]
theorem ch_glob (h0 : (w == Str.ofString "const") = false) (h1 : (w == Str.ofString "local") = false) (h2 : (w == Str.ofString "setlocal") = false) (h : (w == Str.ofString "global") = true) : coreH sh (.s w k) = .glob k := by
  unfold coreH; dsimp only; rw [if_neg (by rw [h0]; decide), if_neg (by rw [h1]; decide), if_neg (by rw [h2]; decide), if_pos h]
theorem ch_setg (h0 : (w == Str.ofString "const") = false) (h1 : (w == Str.ofString "local") = false) (h2 : (w == Str.ofString "setlocal") = false) (h3 : (w == Str.ofString "global") = false) (h : (w == Str.ofString "setglobal") = true) (hk : k < 2) : coreH sh (.s w k) = .setg k := by
  unfold coreH; dsimp only; rw [if_neg (by rw [h0]; decide), if_neg (by rw [h1]; decide), if_neg (by rw [h2]; decide), if_neg (by rw [h3]; decide), if_pos h, if_pos hk]
theorem ch_defn (h0 : (w == Str.ofString "const") = false) (h1 : (w == Str.ofString "local") = false) (h2 : (w == Str.ofString "setlocal") = false) (h3 : (w == Str.ofString "global") = false) (h : (w == Str.ofString "setglobal") = true) (hk : ¬ k < 2) : coreH sh (.s w k) = .defn k := by
  unfold coreH; dsimp only; rw [if_neg (by rw [h0]; decide), if_neg (by rw [h1]; decide), if_neg (by rw [h2]; decide), if_neg (by rw [h3]; decide), if_pos h, if_neg hk]
theorem ch_rest (h0 : (w == Str.ofString "const") = false) (h1 : (w == Str.ofString "local") = false) (h2 : (w == Str.ofString "setlocal") = false) (h3 : (w == Str.ofString "global") = false) (h4 : (w == Str.ofString "setglobal") = false) :
    coreH sh (.s w k) = if w == ("if" : Str) then .iff else if w == ("call" : Str) then .call else if w == ("seq" : Str) then .seq else .prim k := by
  unfold coreH; dsimp only; rw [if_neg (by rw [h0]; decide), if_neg (by rw [h1]; decide), if_neg (by rw [h2]; decide), if_neg (by rw [h3]; decide), if_neg (by rw [h4]; decide)]
theorem ch_if (h0 : (w == Str.ofString "const") = false) (h1 : (w == Str.ofString "local") = false) (h2 : (w == Str.ofString "setlocal") = false) (h3 : (w == Str.ofString "global") = false) (h4 : (w == Str.ofString "setglobal") = false) (h : (w == Str.ofString "if") = true) : coreH sh (.s w k) = .iff := by
  rw [ch_rest h0 h1 h2 h3 h4, if_pos h]
theorem ch_call (h0 : (w == Str.ofString "const") = false) (h1 : (w == Str.ofString "local") = false) (h2 : (w == Str.ofString "setlocal") = false) (h3 : (w == Str.ofString "global") = false) (h4 : (w == Str.ofString "setglobal") = false) (h5 : (w == Str.ofString "if") = false) (h : (w == Str.ofString "call") = true) : coreH sh (.s w k) = .call := by
  rw [ch_rest h0 h1 h2 h3 h4, if_neg (by rw [h5]; decide), if_pos h]
theorem ch_seq (h0 : (w == Str.ofString "const") = false) (h1 : (w == Str.ofString "local") = false) (h2 : (w == Str.ofString "setlocal") = false) (h3 : (w == Str.ofString "global") = false) (h4 : (w == Str.ofString "setglobal") = false) (h5 : (w == Str.ofString "if") = false) (h6 : (w == Str.ofString "call") = false) (h : (w == Str.ofString "seq") = true) : coreH sh (.s w k) = .seq := by
  rw [ch_rest h0 h1 h2 h3 h4, if_neg (by rw [h5]; decide), if_neg (by rw [h6]; decide), if_pos h]
theorem ch_prim (h0 : (w == Str.ofString "const") = false) (h1 : (w == Str.ofString "local") = false) (h2 : (w == Str.ofString "setlocal") = false) (h3 : (w == Str.ofString "global") = false) (h4 : (w == Str.ofString "setglobal") = false) (h5 : (w == Str.ofString "if") = false) (h6 : (w == Str.ofString "call") = false) (h : (w == Str.ofString "seq") = false) : coreH sh (.s w k) = .prim k := by
  rw [ch_rest h0 h1 h2 h3 h4, if_neg (by rw [h5]; decide), if_neg (by rw [h6]; decide), if_neg (by rw [h]; decide)]
end
theorem ints_at : ∀ {us : List Value} {ps : List Int} {i : Nat} {v : Value}, IntsAre us ps → us[i]? = some v → ∃ n t, v = .int n t ∧ ps[i]? = some n ∧ n ∈ ps
  | _, _, i, v, .nil, e => by cases e
  | _, _, i, v, .cons n t r, e => by
    cases i with
    | zero => cases e; exact ⟨n, t, rfl, rfl, .head _⟩
    | succ i =>
      obtain ⟨n', t', e1, e2, e3⟩ := ints_at r (i := i) e
      exact ⟨n', t', e1, e2, .tail _ e3⟩
/-- between the turns: numbers reckoned one by one -/
noncomputable def IntsInv (f : Int → Int) (ps : List Int) (_ : List (Addr × Obj)) (i : Nat) (ys : List Value) (tl : List (Addr × Obj)) : Prop := tl = [] ∧ IntsAre ys ((ps.take i).map f)
theorem IntsInv.next {f : Int → Int} {ps : List Int} {l0 tl : List (Addr × Obj)} {i : Nat} {ys : List Value} {n : Int} {t : Tok} (h : IntsInv f ps l0 i ys tl) (he : ps[i]? = some n) : IntsInv f ps l0 (i + 1) (ys ++ [.int (f n) t]) tl := by
  refine ⟨h.1, ?_⟩
  rw [take_snoc he, List.map_append]
  exact h.2.append (.cons _ _ .nil)
noncomputable def IntAt (r : Int) (s : Shared) (v : Value) (s' : Shared) : Prop := ∃ tk tk', v = .int r tk ∧ s' = { s with toks := tk' }
theorem IntAt.mk {r r' : Int} {s : Shared} {tk tk' : Nat} (e : r' = r) : IntAt r s (.int r' tk) { s with toks := tk' } := ⟨tk, tk', by rw [e], rfl⟩
theorem eval_cut {M : Model} {A : Around} {E : Value → Shared → Prop} {s : Shared} {t : Sem Value} {Q : Value → Shared → Prop} (r : Int) (h1 : wpAny M A t (IntAt r s) E s) (h2 : ∀ tk tk', Q (.int r tk) { s with toks := tk' }) : wpAny M A t Q E s :=
  wpAny_mono h1 (fun v s' h => by obtain ⟨tk, tk', rfl, rfl⟩ := h; exact h2 tk tk') fun _ _ h => h
theorem two_of9 {ys : List Value} (h : ys.length = 2) : ys = ys.take 1 ++ [(nthV ys 1).getD .none] := by
  match ys, h with
  | [y, y1], _ => rfl
theorem kw23 : True := by
  k_with "k_mem" => (first | (first | exact List.Mem.head _ | (refine' List.mem_cons_of_mem _ ?_; k_mem) | with_reducible assumption) | fail)
  k_with "my assign Tuple" => ((k_here; (with_reducible show wpAny _ _ (assign (Expr.Tuple _ _ _) _ (Value.ref _)) _ _ _); k_dflt (refine' unpackN_ ?k1Q82 ?k2Q82 ?k3Q82 ?k4Q82 ?k5Q82 ?k6Q82 ?_; (case k1Q82 => k_asm); (case k2Q82 => k_asm); (case k3Q82 => exact News.isTup (by k_asm) (by k_mem)); (case k4Q82 => exact rfl); (case k5Q82 => exact rfl); (case k6Q82 => exact rfl); k_whole); intro h'ZZ F'ZZ N'ZZ; (try k_sweep)))
  k_with "my subscriptTail" => ((k_here; (with_reducible show wpAny _ _ (subscriptTail _ _ (Value.ref _) (Value.int _ _)) _ _ _); first | k_dflt (refine' item_lst ?NQ83 ?mQ83 ?aQ83 ?bQ83 ?cQ83 ?_ ?dQ83; (case NQ83 => k_asm); (case mQ83 => k_mem); (case aQ83 => decide); (case bQ83 => decide); (case cQ83 => rfl); (case dQ83 => with_unfolding_all rfl); k_whole) | k_dflt (refine' item_tupl ?NQ83 ?mQ83 ?aQ83 ?bQ83 ?cQ83 ?_ ?dQ83; (case NQ83 => k_asm); (case mQ83 => k_mem); (case aQ83 => decide); (case bQ83 => decide); (case cQ83 => rfl); (case dQ83 => with_unfolding_all rfl); k_whole) | ((with_reducible show wpAny _ _ (subscriptTail (Expr.List _ _) _ (Value.ref _) (Value.int _ _)) _ _ _); k_idxSplit)))
  k_with "my subscriptTail Name Constant ref int" => ((k_here; (with_reducible show wpAny _ _ (subscriptTail _ _ (Value.ref _) (Value.int _ _)) _ _ _); first | k_dflt (refine' item_lst ?NQ84 ?mQ84 ?aQ84 ?bQ84 ?cQ84 ?_ ?dQ84; (case NQ84 => k_asm); (case mQ84 => k_mem); (case aQ84 => decide); (case bQ84 => decide); (case cQ84 => rfl); (case dQ84 => with_unfolding_all rfl); k_whole) | k_dflt (refine' item_tupl ?NQ84 ?mQ84 ?aQ84 ?bQ84 ?cQ84 ?_ ?dQ84; (case NQ84 => k_asm); (case mQ84 => k_mem); (case aQ84 => decide); (case bQ84 => decide); (case cQ84 => rfl); (case dQ84 => with_unfolding_all rfl); k_whole) | ((with_reducible show wpAny _ _ (subscriptTail (Expr.List _ _) _ (Value.ref _) (Value.int _ _)) _ _ _); k_idxSplit)))
  k_with "my getItem ref int" => ((k_here; (with_reducible show wpAny _ _ (getItem (Value.ref _) (Value.int _ _)) _ _ _); k_dflt (first | (refine' dict_int ?NQ85 ?mQ85 ?aQ85 ?bQ85 ?cQ85 ?dQ85 ?_; (case NQ85 => k_asm); (case mQ85 => exact List.Mem.head _); (case aQ85 => k_asm); (case bQ85 => k_asm); (case cQ85 => k_asm); (case dQ85 => rfl); k_whole) | (refine' dict_strv ?NQ85 ?mQ85 ?aQ85 ?bQ85 ?cQ85 ?dQ85 ?_; (case NQ85 => k_asm); (case mQ85 => exact List.Mem.head _); (case aQ85 => k_asm); (case bQ85 => k_asm); (case cQ85 => k_asm); (case dQ85 => rfl); k_whole)); intro t'ZZ))
  k_with "my subscriptTail" => ((k_here; (with_reducible show wpAny _ _ (subscriptTail (Expr.Dict _ _ _) _ (Value.ref _) (Value.int _ _)) _ _ _); k_dflt (refine' tab_tail (knd := intKind _ _) (enc := PyData.int) ?TQ86 ?_; (case TQ86 => k_tabat); k_whole)))
  k_with "my exec Assign cons ListComp" => ((k_here; k_dflt (refine Assign_ListComp_T (by k_asm) (by rfl) (by with_unfolding_all rfl) (by with_unfolding_all rfl) (by decide) (by rfl) (by decide) (by rfl) (by rfl) (by rfl) ?_)))
  k_with "my eval ListComp" => ((k_here; k_dflt (refine ListComp_T (by k_asm) (by with_unfolding_all rfl) (by decide) (by rfl) (by decide) (by rfl) ?_)))
  k_with "my exec Assign" => (k_fold)
  k_with "my exec If" => (k_fold)
  k_with "my exec Return" => (k_fold)
  k_with "my exec Expr" => (k_fold)
  k_with "my newTuple" => ((k_here; k_dflt (refine' kup_newTuple ?FQ93 ?NQ93 ?_ ?zQ93; (case FQ93 => k_asm); (case NQ93 => k_asm); (case zQ93 => kmk_size)); intro D'ZZ h'ZZ F'ZZ N'ZZ l1ZZ; clear l1ZZ; (try k_sweep)))
  k_with "my storeName" => ((k_here; k_dflt (refine' storeX_L ?FQ94 ?NQ94 ?_ ?aQ94 ?bQ94; (case FQ94 => k_asm); (case NQ94 => k_asm); (case aQ94 => rfl); (case bQ94 => rfl); k_whole; intro h'ZZ F'ZZ N'ZZ; (try k_sweep)); (refine let_m F'ZZ ?_); clear F'ZZ; intro m'ZZ F'ZZ))
  k_with "k_ne" => (first | ((refine neN ?_; (try dsimp only); first | with_reducible assumption | exact Ne.symm (by with_reducible assumption) | exact neC (by k_asm) (by k_mem) (by k_mem) tl_ne)) | fail)
  k_with "my call ref" => ((k_here; (with_reducible show wpAny _ _ (call (Value.ref 817) [_, Value.int _ _]) _ _ _); k_dflt (refine' node_use ?SQ96 ?hfQ96 ?hkQ96 ?BQ96 ?FQ96 ?XQ96 ?NQ96 ?TQ96 ?subQ96 ?htQ96 ?hwQ96 ?hsQ96 ?hd1Q96 ?hu1Q96 ?_; (case hfQ96 => rfl); (case hkQ96 => first | rfl | assumption); (case BQ96 => k_asm); (case FQ96 => k_asm); (case XQ96 => k_in); (case NQ96 => k_asm); (case TQ96 => k_asm); (case htQ96 => with_reducible assumption); (case subQ96 => tb_start); (case SQ96 => exact node_ih (by with_reducible assumption) (by with_reducible assumption)); (case hwQ96 => exact Mine.T.mem_wf (by with_reducible assumption) (by with_reducible assumption)); (case hsQ96 => with_reducible assumption); (case hd1Q96 => exact room_in (by assumption) (by assumption)); (case hu1Q96 => exact un_in (by assumption) (by assumption) (by (try simp only [units_in1, units_deeper, Around.mark_units, units_caller]); (try dsimp only [arTop]); omega))); intro r'ZZ tl'ZZ h'ZZ tk'ZZ F'ZZ N'ZZ hf'ZZ hk'ZZ; (try k_sweep)))
  k_with "my exec If" => (((with_reducible show wpAny _ _ (exec (Stmt.If (Expr.Compare (Expr.Name (Str.ofString "_law_word") _) _ _ _) _ _ _) _) _ _ _); (fail_if_success (with_reducible rename Mk3 => q9ZZ)); refine Stop.out ?_))
  k_with "my call ref" => ((k_here; k_dflt (first | ((with_reducible show wpAny _ _ (call (Value.ref _) [_]) _ _ _); (refine' mk1_use ?SQ98 ?hfQ98 ?hkQ98 ?BQ98 ?FQ98 ?XQ98 ?NQ98 ?TQ98 ?hd1Q98 ?hu1Q98 ?_; (case SQ98 => first | exact mk_const _ _ | exact mk_loc _ _ | exact mk_glob _ _ | exact mk_seq _ _); (case hfQ98 => rfl); (case hkQ98 => first | rfl | assumption); (case BQ98 => k_asm); (case FQ98 => k_asm); (case XQ98 => k_in); (case NQ98 => k_asm); (case TQ98 => k_asm); (case hd1Q98 => k_room); (case hu1Q98 => ke_room)); intro x'ZZ d'ZZ t1'ZZ h'ZZ tk'ZZ F'ZZ N'ZZ l1ZZ l2ZZ) | ((with_reducible show wpAny _ _ (call (Value.ref _) [_, _]) _ _ _); (refine' mk2_use ?SQ98 ?hfQ98 ?hkQ98 ?BQ98 ?FQ98 ?XQ98 ?NQ98 ?TQ98 ?hd1Q98 ?hu1Q98 ?_; (case SQ98 => first | exact mk_setl _ _ | exact mk_setg _ _ | exact mk_defn _ _ | exact mk_call _ _ | exact mk_prim _ _); (case hfQ98 => rfl); (case hkQ98 => first | rfl | assumption); (case BQ98 => k_asm); (case FQ98 => k_asm); (case XQ98 => k_in); (case NQ98 => k_asm); (case TQ98 => k_asm); (case hd1Q98 => k_room); (case hu1Q98 => ke_room)); intro x'ZZ d'ZZ t1'ZZ t2'ZZ h'ZZ tk'ZZ F'ZZ N'ZZ l1ZZ l2ZZ) | ((with_reducible show wpAny _ _ (call (Value.ref _) [_, _, _]) _ _ _); (refine' mk3_use ?SQ98 ?hfQ98 ?hkQ98 ?BQ98 ?FQ98 ?XQ98 ?NQ98 ?TQ98 ?hd1Q98 ?hu1Q98 ?_; (case SQ98 => first | exact mk_iff _ _ | exact mk_fix _ _); (case hfQ98 => rfl); (case hkQ98 => first | rfl | assumption); (case BQ98 => k_asm); (case FQ98 => k_asm); (case XQ98 => k_in); (case NQ98 => k_asm); (case TQ98 => k_asm); (case hd1Q98 => k_room); (case hu1Q98 => ke_room)); intro x'ZZ d'ZZ t1'ZZ t2'ZZ t3'ZZ h'ZZ tk'ZZ F'ZZ N'ZZ l1ZZ l2ZZ) | ((with_reducible show wpAny _ _ (call (Value.ref _) [_, _, _, _]) _ _ _); (refine' mk4_use ?SQ98 ?hfQ98 ?hkQ98 ?BQ98 ?FQ98 ?XQ98 ?NQ98 ?TQ98 ?hd1Q98 ?hu1Q98 ?_; (case SQ98 => first | exact mk_lam _ _); (case hfQ98 => rfl); (case hkQ98 => first | rfl | assumption); (case BQ98 => k_asm); (case FQ98 => k_asm); (case XQ98 => k_in); (case NQ98 => k_asm); (case TQ98 => k_asm); (case hd1Q98 => k_room); (case hu1Q98 => ke_room)); intro x'ZZ d'ZZ t1'ZZ t2'ZZ t3'ZZ t4'ZZ h'ZZ tk'ZZ F'ZZ N'ZZ l1ZZ l2ZZ)); (try k_sweep)))
  k_with "my subscriptTail Name Slice ref ref" => ((k_here; (with_reducible show wpAny _ _ (subscriptTail _ (PySem.Expr.Slice _ _ none _) (Value.ref _) (Value.ref _)) _ _ _); k_dflt (refine' kms_slice_lit ?FQ99 ?NQ99 ?lQ99 ?pQ99 ?qQ99 ?eQ99 ?_ ?sQ99 ?tQ99 ?zQ99; (case FQ99 => k_asm); (case NQ99 => k_asm); (case lQ99 => exact News.isList (by k_asm) (by k_mem)); (case pQ99 => kmk_part); (case qQ99 => kmk_part); (case eQ99 => first | exact pick_from1 | exact pick_to1); (case sQ99 => with_unfolding_all rfl); (case tQ99 => kmk_pure); (case zQ99 => exact size_le (by with_reducible assumption))); intro D'ZZ h'ZZ F'ZZ N'ZZ l1ZZ; (try k_sweep)))
  k_with "my subscriptTail Name Constant ref int" => ((k_here; k_dflt (first | ((with_reducible show wpAny _ _ (subscriptTail (Expr.Name (Str.ofString "_law_nodes") _) _ (Value.ref _) (Value.int 0 _)) _ _ _); refine' item_nth (k := 0) ?NQ100 ?mQ100 ?aQ100 ?zQ100 ?_ ?dQ100) | ((with_reducible show wpAny _ _ (subscriptTail (Expr.Name (Str.ofString "_law_nodes") _) _ (Value.ref _) (Value.int 1 _)) _ _ _); refine' item_nth (k := 1) ?NQ100 ?mQ100 ?aQ100 ?zQ100 ?_ ?dQ100) | ((with_reducible show wpAny _ _ (subscriptTail (Expr.Name (Str.ofString "_law_nodes") _) _ (Value.ref _) (Value.int 2 _)) _ _ _); refine' item_nth (k := 2) ?NQ100 ?mQ100 ?aQ100 ?zQ100 ?_ ?dQ100)); k_dflt ((case NQ100 => k_asm); (case mQ100 => k_mem); (case aQ100 => first | exact lt_setl (by with_reducible assumption) (by with_reducible assumption) | exact lt_setg (by with_reducible assumption) (by with_reducible assumption) | exact lt_if0 (by with_reducible assumption) (by with_reducible assumption) | exact lt_if1 (by with_reducible assumption) (by with_reducible assumption) | exact lt_if2 (by with_reducible assumption) (by with_reducible assumption) | exact lt_lam (by with_reducible assumption) | exact lt_fix (by with_reducible assumption) | exact lt_call (by with_reducible assumption) (by with_reducible assumption)); (case zQ100 => with_reducible assumption); (case dQ100 => with_unfolding_all rfl); k_whole)))
  k_with "my subscriptTail" => ((k_here; (with_reducible show wpAny _ _ (subscriptTail (Expr.List _ _) _ (Value.ref _) (Value.int _ _)) _ _ _); k_dflt (refine' item3c ?NQ101 ?mQ101 ?aQ101 ?_ ?dQ101; (case NQ101 => k_asm); (case mQ101 => k_mem); (case aQ101 => with_reducible assumption); (case dQ101 => with_unfolding_all rfl)); intro v'ZZ hv'ZZ))
  k_with "kst_mem" => (first | ((refine' fil_mem ?aQ102 ?bQ102; (case aQ102 => k_mem); (case bQ102 => first | exact fresh_imm (by with_reducible assumption) (by tb_start) | exact fresh_off (by with_reducible assumption) (by tb_start)))) | fail)
  k_with "my eval IfExp" => (((with_reducible show wpAny _ _ (eval (Expr.IfExp (Expr.Compare (Expr.Subscript _ _ _) _ _ _) _ _ _) _) _ _ _); (fail_if_success (with_reducible rename Mk2 => q9ZZ)); refine Stop.out ?_))
  trivial
theorem node_step (prog : Program) (w : World) (h : Hd) (ts : List T) (ih : ∀ t ∈ ts, NodeSpec prog w t) : NodeSpec prog w (.node h ts) := by
  have hfill9 : PySem.Challenge.rw_on0297_01 = PySem.Challenge.rw_on0297_01 ∧ hd.heap_1 = hd.heap_1 := by
    k_fill
    exact ⟨rfl, rfl⟩
  clear hfill9
  intro sh tk v imm ht hw hs
  obtain ⟨a, p9, x, t1, n1, n2, vs9, rfl, hm1, hm2, hm3, hm4⟩ := ht.inv
  generalize hwd : h.word = wd at hm1
  unfold T.wf at hw
  obtain ⟨hw1, hw2⟩ := hw
  have hl3 : vs9.length ≤ 1000 := by rw [hm4.length]; exact Nat.le_trans (wfh3_len hw1) (by decide)
  rintro p loose mean mg mb dp un gd ⟨⟨_, nm, ig, ic, mo⟩, lo, gl, ce, qu, fu, co, _, bu⟩ outer A₀ base h₀ L m s Q E rfl rfl B F X N T hd1 hu1 hret
  refine wpAny_call ?_
  k_dflt k_enter
  refine let_env ?_
  intro env9
  k_steps
  refine comp_tupL (NodesInv w.params sh ts) (by rfl) (by k_asm) (by k_asm) (by k_mem) hl3 ⟨.nil, fun _ hp => (nomatch hp)⟩ ?step ?fin
  case step =>
    intro i9 ys9 y9 v9 e9 hI9 I9 oI9 C9 oC9 D9 m9 h9 tk9 E9 a1 a2 F8 N8 a3
    obtain ⟨t9, b1, b2, b3⟩ := hm4.at e9
    k_steps
    exact turn_app (by k_asm) (by k_asm) (by with_reducible assumption) a3 (hI9.next b2 (by with_reducible assumption) (by with_reducible assumption) (by tb_start))
  case fin =>
    intro g9 ys9 y9 ⟨hn9, hf9⟩
    rw [show vs9.length = ts.length from hm4.length, List.take_length] at hn9
    have hw9 := len_of hw1 hn9
    have hl9 := wfh3_len hw9
    k_steps
    refine Stop.into ?_
    have mk8 := Mk3.mk
    cases h with
    | s w9 k =>
      obtain rfl : w9 = wd := hwd
      obtain ⟨hwl, hwf⟩ := w_ne' hw1
      obtain ⟨t9, rfl⟩ := hm2
      have hk3 : in3 k := hw1.1
      k_steps
      · (rename Fr h₀ L _ m => F9); (rename News h₀ L _ _ => N9)
        exact node_end (.const k) hret F9 N9 (by tb_start) (ch_const (by with_reducible assumption)) (by k_mem) (by k_mem) (by with_reducible assumption) (by with_reducible assumption) (by tb_start) ⟨_, _, (by with_reducible assumption), rfl, nil_of (n_leaf hw9 (.inl (by with_reducible assumption)))⟩ hn9 hf9 (by tb_start) (by tb_start)
      · (rename Fr h₀ L _ m => F9); (rename News h₀ L _ _ => N9)
        exact node_end (.loc (num sh k)) hret F9 N9 (by tb_start) (ch_loc (by with_reducible assumption) (by with_reducible assumption)) (by k_mem) (by k_mem) (by with_reducible assumption) (by with_reducible assumption) (by tb_start) ⟨_, _, rfl, nil_of (n_leaf hw9 (.inr (.inl (by with_reducible assumption))))⟩ hn9 hf9 (by tb_start) (by tb_start)
      · (rename Fr h₀ L _ m => F9); (rename News h₀ L _ _ => N9)
        exact node_end (.setl (num sh k)) hret F9 N9 (by tb_start) (ch_setl (by with_reducible assumption) (by with_reducible assumption) (by with_reducible assumption)) (by k_mem) (by k_mem) (by with_reducible assumption) (by with_reducible assumption) (by tb_start) ⟨_, _, _, _, rfl, one_of (n_setl hw9 (by with_reducible assumption))⟩ hn9 hf9 (by tb_start) (by tb_start)
      · (rename Fr h₀ L _ m => F9); (rename News h₀ L _ _ => N9)
        exact node_end (.glob k) hret F9 N9 (by tb_start) (ch_glob (by with_reducible assumption) (by with_reducible assumption) (by with_reducible assumption) (by with_reducible assumption)) (by k_mem) (by k_mem) (by with_reducible assumption) (by with_reducible assumption) (by tb_start) ⟨_, _, rfl, nil_of (n_leaf hw9 (.inr (.inr (by with_reducible assumption))))⟩ hn9 hf9 (by tb_start) (by tb_start)
      · (rename Fr h₀ L _ m => F9); (rename News h₀ L _ _ => N9)
        exact node_end (.setg k) hret F9 N9 (by tb_start) (ch_setg (by with_reducible assumption) (by with_reducible assumption) (by with_reducible assumption) (by with_reducible assumption) (by with_reducible assumption) (by with_reducible assumption)) (by k_mem) (by k_mem) (by with_reducible assumption) (by with_reducible assumption) (by tb_start) ⟨_, _, _, _, rfl, one_of (n_setg hw9 (by with_reducible assumption))⟩ hn9 hf9 (by tb_start) (by tb_start)
      · (rename Fr h₀ L _ m => F9); (rename News h₀ L _ _ => N9)
        exact node_end (.defn k) hret F9 N9 (by tb_start) (ch_defn (by with_reducible assumption) (by with_reducible assumption) (by with_reducible assumption) (by with_reducible assumption) (by with_reducible assumption) (by with_reducible assumption)) (by k_mem) (by k_mem) (by with_reducible assumption) (by with_reducible assumption) (by tb_start) ⟨_, _, _, _, rfl, one_of (n_setg hw9 (by with_reducible assumption))⟩ hn9 hf9 (by tb_start) (by tb_start)
      · (rename Fr h₀ L _ m => F9); (rename News h₀ L _ _ => N9)
        exact node_end .iff hret F9 N9 (by tb_start) (ch_if (by with_reducible assumption) (by with_reducible assumption) (by with_reducible assumption) (by with_reducible assumption) (by with_reducible assumption) (by with_reducible assumption)) (by k_mem) (by k_mem) (by with_reducible assumption) (by with_reducible assumption) (by tb_start) ⟨_, _, _, _, _, _, rfl, three_of (n_if hw9 (by with_reducible assumption))⟩ hn9 hf9 (by tb_start) (by tb_start)
      · (rename Fr h₀ L _ m => F9); (rename News h₀ L _ _ => N9)
        exact node_end .call hret F9 N9 (by tb_start) (ch_call (by with_reducible assumption) (by with_reducible assumption) (by with_reducible assumption) (by with_reducible assumption) (by with_reducible assumption) (by with_reducible assumption) (by with_reducible assumption)) (by k_mem) (by k_mem) (by with_reducible assumption) (by with_reducible assumption) (by tb_start) ⟨_, _, _, _, _, _, rfl, by kst_mem, cons_of (n_call hw9 (by with_reducible assumption))⟩ hn9 hf9 (by tb_start) (by tb_start)
      · (rename Fr h₀ L _ m => F9); (rename News h₀ L _ _ => N9)
        exact node_end .seq hret F9 N9 (by tb_start) (ch_seq (by with_reducible assumption) (by with_reducible assumption) (by with_reducible assumption) (by with_reducible assumption) (by with_reducible assumption) (by with_reducible assumption) (by with_reducible assumption) (by with_reducible assumption)) (by k_mem) (by k_mem) (by with_reducible assumption) (by with_reducible assumption) (by tb_start) ⟨_, _, _, rfl, by kst_mem⟩ hn9 hf9 (by tb_start) (by tb_start)
      · (rename Fr h₀ L _ m => F9); (rename News h₀ L _ _ => N9)
        exact node_end (.prim k) hret F9 N9 (by tb_start) (ch_prim (by with_reducible assumption) (by with_reducible assumption) (by with_reducible assumption) (by with_reducible assumption) (by with_reducible assumption) (by with_reducible assumption) (by with_reducible assumption) (by with_reducible assumption)) (by k_mem) (by k_mem) (by with_reducible assumption) (by with_reducible assumption) (by tb_start) ⟨_, _, _, _, _, rfl, by kst_mem⟩ hn9 hf9 (by tb_start) (by tb_start)
    | lam l ps r =>
      obtain rfl : Str.ofString "lambda" = wd := hwd
      obtain ⟨q9, u9, us9, t2, t3, n3, n4, rfl, hq1, hq2, hq3⟩ := hm2
      have hl5 := hw1.1
      obtain ⟨hi5, hr5⟩ := hw1.2.2.2.1
      k_steps
      refine Stop.into ?_
      refine eval_cut (if r < 0 then -1 else num sh r) ?_ ?_
      · have mk9 := Mk2.mk
        k_steps
        · exact IntAt.mk (if_pos (by with_reducible assumption)).symm
        · exact IntAt.mk (if_neg (by with_reducible assumption)).symm
      · intro tk5 tk6
        k_steps
        refine comp_tupL (IntsInv (num sh) ps) (by rfl) (by k_asm) (by k_asm) (by k_mem) (by rw [hq3.length]; exact Nat.le_trans hw1.2.2.1 (by decide)) ⟨rfl, .nil⟩ ?step ?fin
        case step =>
          intro i6 ys6 tl6 v6 e6 hI6 I6 oI6 C6 oC6 D6 m6 h6 tk6 E6 a1 a2 F6 N6 a3
          obtain ⟨n6, t6, rfl, e7, e8⟩ := ints_at hq3 e6
          have hn6 : in3 n6 := hw1.2.1 n6 e8
          k_steps
          exact turn_same (by k_asm) (by k_asm) a3 (hI6.next e7)
        case fin =>
          rintro g6 ys6 tl6 ⟨rfl, hi6⟩
          rw [hq3.length, List.take_length] at hi6
          k_steps
          (rename Fr h₀ L _ m => F9); (rename News h₀ L _ _ => N9)
          exact node_end (.lam (lab sh l) (ps.map (num sh)) (if r < 0 then -1 else num sh r)) hret F9 N9 (by tb_start) rfl (by k_mem) (by k_mem) (by with_reducible assumption) (by with_reducible assumption) (by tb_start) ⟨_, _, ys6, _, _, _, _, _, _, _, rfl, by kst_mem, hi6, (by rw [List.length_map]; exact hw1.2.2.1), one_of hw9.2.2.2.2⟩ hn9 hf9 (by tb_start) (by tb_start)
    | fix k =>
      obtain rfl : Str.ofString "fix" = wd := hwd
      obtain ⟨q9, t9, n3, rfl, hq1⟩ := hm2
      have hk3 : in3 k := hw1.1
      k_steps
      refine comp_tupL (IntsInv (num sh) [k]) (by rfl) (by k_asm) (by k_asm) (by k_mem) (Nat.le_of_ble_eq_true rfl) ⟨rfl, .nil⟩ ?step ?fin
      case step =>
        intro i6 ys6 tl6 v6 e6 hI6 I6 oI6 C6 oC6 D6 m6 h6 tk6 E6 a1 a2 F6 N6 a3
        obtain ⟨n6, t6, rfl, e7, e8⟩ := ints_at (.cons k t9 .nil) e6
        have hn6 : in3 n6 := by rw [List.mem_singleton.mp e8]; exact hk3
        k_steps
        exact turn_same (by k_asm) (by k_asm) a3 (hI6.next e7)
      case fin =>
        rintro g6 ys6 tl6 ⟨rfl, hi6⟩
        k_steps
        (rename Fr h₀ L _ m => F9); (rename News h₀ L _ _ => N9)
        exact node_end (.fix (num sh k)) hret F9 N9 (by tb_start) rfl (by k_mem) (by k_mem) (by with_reducible assumption) (by with_reducible assumption) (by tb_start) ⟨_, _, ys6, _, _, ys9.take 1, _, _, _, _, rfl, by kst_mem, hi6, by kst_mem, two_of9 hw9.2⟩ hn9 hf9 (by tb_start) (by tb_start)
end
section
set_option maxHeartbeats 6000000
theorem kw25 : True := by
  k_with_none
  k_with "ke_room" => (first | ((have hcL9ZZ := cLine_is; simp only [units_in1, units_deeper, Around.mark_units, units_caller]; (try dsimp only [arTop]); omega)) | fail)
  k_with "k_units" => (first | (ke_room) | fail)
  k_with "units_room" => (first | (ke_room) | fail)
  k_with "k_room" => (first | (((try simp only [depth_under_make, depth_under_kw, depth_in1, depth_deeper, depth_caller]); (try dsimp only [arTop]); (try simp only [recursionLimit]); omega)) | fail)
  k_with "ktr_room" => (first | (k_room) | fail)
  k_with "ktr_member" => (first | (first | exact allLt_ne (by with_reducible assumption) | exact allLt_ne1 (by with_reducible assumption) | exact allLt_ne2 (by with_reducible assumption) | exact off3_I (by with_reducible assumption) | exact off3_C (by with_reducible assumption) | exact off3_D (by with_reducible assumption) | exact off1_D (by with_reducible assumption)) | fail)
  k_with "k_ne" => (first | ((refine neN ?_; (try dsimp only); first | with_reducible assumption | exact Ne.symm (by with_reducible assumption) | exact Nat.ne_of_lt (by with_reducible assumption) | exact Nat.ne_of_gt (by with_reducible assumption) | omega)) | fail)
  k_with "kst_all" => (first | (first | with_reducible assumption | ktr_member | exact off_app (by first | with_reducible assumption | ktr_member) | exact off_app (off_app (by first | with_reducible assumption | ktr_member)) | exact off_app (off_app (off_app (by first | with_reducible assumption | ktr_member)))) | fail)
  k_with "kst_mem" => (first | ((refine' fil_mem ?aQ9 ?bQ9; (case aQ9 => k_mem); (case bQ9 => k_all))) | fail)
  k_with "kst_p" => (first | ((refine' fil_tree ?aQ10 ?bQ10 ?cQ10; (case aQ10 => with_reducible assumption); (case bQ10 => tb_start); (case cQ10 => exact fr_tl (by with_reducible assumption) (by with_reducible assumption) (by with_reducible assumption) (by with_reducible assumption) (by tb_start)))) | fail)
  k_with "k_all" => (first | (first | exact List.forall_mem_nil _ | (refine' List.forall_mem_cons.mpr ⟨?aQ11, ?bQ11⟩; (case aQ11 => k_ne); (case bQ11 => k_all)) | kst_all) | fail)
  k_with "lcg_off" => (first | (first | exact True.intro | (refine And.intro ⟨?aQ12, ?bQ12, ?cQ12⟩ ?dQ12; (case aQ12 => k_ne); (case bQ12 => k_ne); (case cQ12 => k_ne); (case dQ12 => lcg_off)) | with_reducible assumption | exact off3_of (by first | with_reducible assumption | ktr_member) (by first | with_reducible assumption | ktr_member) (by first | with_reducible assumption | ktr_member)) | fail)
  k_with "tb_rel" => (first | (first | with_reducible assumption | (refine List.mem_cons_of_mem _ ?_; tb_rel) | (refine List.mem_append.mpr (Or.inr ?_); tb_rel) | (refine List.mem_append.mpr (Or.inl ?_); tb_rel)) | fail)
  k_with "tb_start" => (first | ((intro p9ZZ hp9ZZ; tb_rel)) | fail)
  k_with "tbn_lt" => (first | (first | exact Ext.head | (refine' Ext.tail ?aQ15; (case aQ15 => tbn_lt))) | fail)
  k_with "tbn_below" => (first | (first | (refine' Split.cons ?aQ16; (case aQ16 => tbn_below)) | exact Split.base) | fail)
  k_with "tbn_conj" => (first | (first | exact True.intro | (refine' And.intro ?aQ17 ?bQ17; (case aQ17 => first | with_reducible assumption | ktr_member); (case bQ17 => tbn_conj))) | fail)
  k_with "my ite" => ((k_closed; first | (refine' iteBT ?p9Q18 ?_; (case p9Q18 => decide)) | (refine' iteBF ?p9Q18 ?_; (case p9Q18 => decide))))
  k_with "my CompEnd" => ((k_here; k_dflt (refine' comp_end ?FQ19 ?NQ19 ?e1Q19 ?e2Q19 ?e3Q19 ?offQ19 ?_; (case FQ19 => k_asm); (case NQ19 => k_asm); (case e1Q19 => tbn_lt); (case e2Q19 => tbn_lt); (case e3Q19 => tbn_lt); (case offQ19 => lcg_off))))
  k_with "my CompSrc" => ((k_here; k_dflt (refine LCg.CompSrc.range (by rfl) (by k_asm) (by k_asm) (by assumption) (by first | decide | rfl) (by first | rfl | decide) (by first | size_fits | exact Nat.le_of_ble_eq_true rfl) ?_; intro g'ZZ; lcg_lit)))
  k_with "my CompRest" => ((with_unfolding_all first | (refine LCg.CompRest.succ ?_; intro v'ZZ I'ZZ oI'ZZ C'ZZ oC'ZZ D'ZZ m'ZZ h'ZZ tk'ZZ E'ZZ hv'ZZ hC'ZZ hx'ZZ F'ZZ N'ZZ off'ZZ ne'ZZ; (first | lcg_open hv'ZZ | (obtain ⟨t9'ZZ, hv9'ZZ⟩ := hv'ZZ; subst hv9'ZZ)); (try dsimp only [LCg.Off3] at off'ZZ); (refine let_goal ?_); intro G9ZZ; (repeat (with_reducible obtain ⟨⟨_, _, _⟩, off'ZZ⟩ := off'ZZ)); (obtain ⟨_, _, _⟩ := ne'ZZ); k_unfold; clear G9ZZ) | refine LCg.CompRest.zero ?_))
  k_with "my FinE" => (((unfold LCg.FinE); intro D'ZZ h'ZZ tk'ZZ F'ZZ N'ZZ o1'ZZ; (try dsimp only [LCg.Off1] at o1'ZZ); (refine let_goal ?_); intro G9ZZ; (repeat (with_reducible obtain ⟨_, o1'ZZ⟩ := o1'ZZ)); k_unfold; clear G9ZZ; (try simp only [List.nil_append, List.cons_append] at N'ZZ); (try dsimp only)))
  trivial
/-- the law's own writing -/
noncomputable def cntAll (ms : List Int) : List Int → List Int
  | [] => ms
  | k :: ks => cntAll (cntL ms k) ks
noncomputable def idx1 (ms : List Int) (k : Int) : Int := (((cntL ms k).idxOf k : Nat) : Int)
noncomputable def idxs (ms : List Int) : List Int → List Int
  | [] => []
  | k :: ks => idx1 ms k :: idxs (cntL ms k) ks
noncomputable def bnd (ps : List Int) (r : Int) : List Int := ps ++ if 0 ≤ r then [r] else []
noncomputable abbrev isLoc (w : Str) : Bool := Str.ofString "local" == w || (Str.ofString "setlocal" == w || false)
noncomputable abbrev isNil (w : Str) : Bool := Str.ofString "if" == w || (Str.ofString "call" == w || (Str.ofString "seq" == w || false))
noncomputable def msH : Hd → List Int → List Int
  | .s w k, ms => if isLoc w = true then cntL ms k else ms
  | .lam _ ps r, ms => cntAll ms (bnd ps r)
  | .fix k, ms => cntL ms k
noncomputable def lsH : Hd → List Int → List Int
  | .lam l _ _, ls => cntL ls l
  | _, ls => ls
noncomputable def whatD : Hd → List Int → List Int → Dat
  | .s w k, ms, _ => if isLoc w = true then .int (idx1 ms k) else if isNil w = true then .int 0 else .int k
  | .lam l ps r, ms, ls => .tuple [.int (idx1 ls l), .tuple ((idxs ms (bnd ps r)).map .int), .bool (decide (0 ≤ r))]
  | .fix k, ms, _ => .tuple [.int (idx1 ms k)]
mutual
noncomputable def msT : T → List Int → List Int
  | .node h ts, ms => msTs ts (msH h ms)
noncomputable def msTs : List T → List Int → List Int
  | [], ms => ms
  | t :: ts, ms => msTs ts (msT t ms)
end
mutual
noncomputable def lsT : T → List Int → List Int
  | .node h ts, ls => lsTs ts (lsH h ls)
noncomputable def lsTs : List T → List Int → List Int
  | [], ls => ls
  | t :: ts, ls => lsTs ts (lsT t ls)
end
mutual
noncomputable def wrD : T → List Int → List Int → Dat
  | .node h ts, ms, ls => .tuple [.str h.word, whatD h ms ls, .tuple (wrDs ts (msH h ms) (lsH h ls))]
noncomputable def wrDs : List T → List Int → List Int → List Dat
  | [], _, _ => []
  | t :: ts, ms, ls => wrD t ms ls :: wrDs ts (msT t ms) (lsT t ls)
end
theorem msTs_snoc : ∀ {ts : List T} {t : T} {ms : List Int}, msTs (ts ++ [t]) ms = msT t (msTs ts ms)
  | [], _, _ => rfl
  | _ :: ts, t, ms => by rw [List.cons_append, msTs, msTs_snoc, msTs]
theorem lsTs_snoc : ∀ {ts : List T} {t : T} {ls : List Int}, lsTs (ts ++ [t]) ls = lsT t (lsTs ts ls)
  | [], _, _ => rfl
  | _ :: ts, t, ms => by rw [List.cons_append, lsTs, lsTs_snoc, lsTs]
theorem wrDs_snoc : ∀ {ts : List T} {t : T} {ms ls : List Int}, wrDs (ts ++ [t]) ms ls = wrDs ts ms ls ++ [wrD t (msTs ts ms) (lsTs ts ls)]
  | [], _, _, _ => rfl
  | _ :: ts, t, ms, ls => by rw [List.cons_append, wrDs, wrDs_snoc, wrDs, msTs, lsTs]; rfl
theorem cntAll_snoc : ∀ {ks : List Int} {k : Int} {ms : List Int}, cntAll ms (ks ++ [k]) = cntL (cntAll ms ks) k
  | [], _, _ => rfl
  | _ :: ks, k, ms => by rw [List.cons_append, cntAll, cntAll_snoc, cntAll]
theorem idxs_snoc : ∀ {ks : List Int} {k : Int} {ms : List Int}, idxs ms (ks ++ [k]) = idxs ms ks ++ [idx1 (cntAll ms ks) k]
  | [], _, _ => rfl
  | _ :: ks, k, ms => by rw [List.cons_append, idxs, idxs_snoc, idxs, cntAll]; rfl
/-- what the walk of _law_written leaves -/
noncomputable def WrPost (a b : Nat) (t : T) (ms ls : List Int) (imm l : List (Addr × Obj)) (r : Value) (news' : List (Addr × Obj)) : Prop :=
  ∃ vs n us n2 tl, news' = (a, listOf vs.toArray n) :: (b, listOf us.toArray n2) :: (tl ++ imm) ∧ IntsAre vs (msT t ms) ∧ Met (msT t ms) ∧ IntsAre us (lsT t ls) ∧ Met (lsT t ls) ∧ (∀ p ∈ tl, ∀ q ∈ l, q.1 ≠ p.1) ∧ DatIn tl r (wrD t ms ls)
noncomputable def WrSpec (prog : Program) (w : World) (t : T) : Prop :=
  ∀ (a b : Nat) (vs : List Value) (n : Nat) (us : List Value) (n2 : Nat) (ms ls : List Int) (v : Value) (imm : List (Addr × Obj)), IntsAre vs ms → Met ms → IntsAre us ls → Met ls → a ≠ b → (∀ p ∈ imm, p.1 ≠ a) → (∀ p ∈ imm, p.1 ≠ b) → TreeIn imm t v → t.wf 3 →
   CallsTo prog w (hd.heap_1 w.params) 829 [v, .ref a, .ref b] ((a, listOf vs.toArray n) :: (b, listOf us.toArray n2) :: imm) (t.depth + 14) (20 * t.depth + 600)
     (WrPost a b t ms ls imm ((a, listOf vs.toArray n) :: (b, listOf us.toArray n2) :: imm))
section
variable {prog : Program} {w : World} {p : Program} {loose : List Str} {mean : ExcName → Option Value} {mg mb : Str → Option Value} {dp un : Nat} {gd : Option (List Code)} {env : Env} {outer : List Env} {A₀ : Around} {base h₀ : Heap} {L : Addr} {m : Str → Option Value} {s : Shared} {Q E : Value → Shared → Prop} {l l1 rest imm : List (Addr × Obj)}
theorem count_use {mt : Nat} {ms : List Int} {vs : List Value} {n0 : Nat} {k0 : Int} {tk0 : Tok}
    (hf : env.frame = some L) (hk : env.scope.kind = .function) (B : Below A₀ base outer h₀) (F : Fr h₀ L s.heap m) (X : (hd.heap_1 w.params).In h₀) (N : News h₀ L s.heap l) (T : Top p loose mean mg mb h₀)
    (e1 : Ext (mt, listOf vs.toArray n0) l rest) (hi : IntsAre vs ms) (hms : Met ms) (hk0 : in3 k0) (hnd : ∀ p ∈ rest, p.1 ≠ mt) (hd1 : dp + 4 < 1000) (hu1 : un + 200 < 9900)
    (ret : ∀ t vs n h' tk', Fr h₀ L h' m → News h₀ L h' ((mt, listOf vs.toArray n) :: rest) → IntsAre vs (cntL ms k0) → Met (cntL ms k0) → Q (.int (idx1 ms k0) t) { s with heap := h', toks := tk' }) :
    wpAny (model prog w) (arTop dp un gd env outer) (call (.ref 824) [.ref mt, .int k0 tk0]) Q E s := by
  refine count_spec prog w mt ms vs n0 k0 tk0 rest hi hms hk0 hnd _ _ _ _ _ _ _ _ _ _ _ _ _ _ _ _ _ _ hf hk B F X (e1.news N) T hd1 hu1 ?_
  rintro r news' h' tk' F' N' ⟨t, vs', n, rfl, rfl, h1⟩
  exact ret t vs' n h' tk' F' N' h1 (met_cnt hms hk0)
theorem wr_use {a b : Nat} {vs us : List Value} {n n2 : Nat} {ms ls : List Int} {v : Value} {t : T} (S : WrSpec prog w t)
    (hf : env.frame = some L) (hk : env.scope.kind = .function) (B : Below A₀ base outer h₀) (F : Fr h₀ L s.heap m) (X : (hd.heap_1 w.params).In h₀) (N : News h₀ L s.heap l) (T : Top p loose mean mg mb h₀)
    (e1 : Ext (a, listOf vs.toArray n) l l1) (e2 : Ext (b, listOf us.toArray n2) l1 rest)
    (hi : IntsAre vs ms) (hm : Met ms) (hj : IntsAre us ls) (hl : Met ls) (hab : a ≠ b) (hna : ∀ p ∈ rest, p.1 ≠ a) (hnb : ∀ p ∈ rest, p.1 ≠ b) (sub : ∀ p ∈ imm, p ∈ rest) (ht : TreeIn imm t v) (hw : t.wf 3)
    (hd1 : dp + (t.depth + 14) < 1000) (hu1 : un + (20 * t.depth + 600) < 9900)
    (ret : ∀ r vs n us n2 tl h' tk', Fr h₀ L h' m → News h₀ L h' ((a, listOf vs.toArray n) :: (b, listOf us.toArray n2) :: (tl ++ rest)) → IntsAre vs (msT t ms) → Met (msT t ms) → IntsAre us (lsT t ls) → Met (lsT t ls) →
      (∀ p ∈ tl, p.1 ≠ a) → (∀ p ∈ tl, p.1 ≠ b) → (∀ p ∈ tl, ∀ q ∈ rest, q.1 ≠ p.1) → DatIn tl r (wrD t ms ls) → Q r { s with heap := h', toks := tk' }) :
    wpAny (model prog w) (arTop dp un gd env outer) (call (.ref 829) [v, .ref a, .ref b]) Q E s := by
  have N1 : News h₀ L s.heap l1 := fun p hp => e1.news N p (.tail _ hp)
  refine S a b vs n us n2 ms ls v rest hi hm hj hl hab hna hnb (.mono sub _ _ ht) hw _ _ _ _ _ _ _ _ _ _ _ _ _ _ _ _ _ _ hf hk B F X ?_ T hd1 hu1 ?_
  · exact news_cons N ((e1.mem _).mpr (.inl rfl)) (e2.news N1)
  · rintro r news' h' tk' F' N' ⟨vs', n', us', n2', tl, rfl, h1, h2, h3, h4, h5, h6⟩
    exact ret r vs' n' us' n2' tl h' tk' F' N' h1 h2 h3 h4 (fun p hp => Ne.symm (h5 p hp _ (.head _))) (fun p hp => Ne.symm (h5 p hp _ (.tail _ (.head _)))) (fun p hp q hq => h5 p hp q (.tail _ (.tail _ hq))) h6
theorem wr_fin {a b : Nat} {vs us : List Value} {n n2 : Nat} {ms ls : List Int} {t : T} {o1 o2 : Obj} {l9 : List (Addr × Obj)} {r : Value} {h' : Heap} {tk' : Nat}
    (hret : ∀ r news' h' tk', Fr h₀ L h' m → News h₀ L h' news' → WrPost a b t ms ls imm ((a, o1) :: (b, o2) :: imm) r news' → Q r { s with heap := h', toks := tk' }) (F : Fr h₀ L h' m) (N : News h₀ L h' l9)
    (m1 : (a, listOf vs.toArray n) ∈ l9) (m2 : (b, listOf us.toArray n2) ∈ l9) (sub : ∀ p ∈ imm, p ∈ l9) (hi : IntsAre vs (msT t ms)) (hm : Met (msT t ms)) (hj : IntsAre us (lsT t ls)) (hl : Met (lsT t ls)) (hd : DatIn (fil ((a, o1) :: (b, o2) :: imm) l9) r (wrD t ms ls)) : Q r { s with heap := h', toks := tk' } :=
  hret r _ h' tk' F (news_cons N m1 (news_cons N m2 (news_app (news_sub N fil_sub) (news_sub N sub)))) ⟨vs, n, us, n2, fil ((a, o1) :: (b, o2) :: imm) l9, rfl, hi, hm, hj, hl, fil_fresh, hd⟩
end
theorem dat_snoc {news : List (Addr × Obj)} : ∀ {vs : List Value} {ds : List Dat} {v : Value} {d : Dat}, DatAll news vs ds → DatIn news v d → DatAll news (vs ++ [v]) (ds ++ [d])
  | _, _, _, _, .nil, h => .cons h .nil
  | _, _, _, _, .cons h r, k => .cons h (dat_snoc r k)
section
variable {prog : Program} {w : World} {A : Around} {E : Value → Shared → Prop} {s : Shared} {h₀ : Heap} {L : Addr} {m : Str → Option Value} {env : Env} {l l1 rest imm : List (Addr × Obj)}
theorem off3_sub {I C D a : Nat} {o o' : Obj} {X : List (Addr × Obj)} (h : LCg.Off3 I C D ((a, o) :: X)) : LCg.Off3 I C D ((a, o') :: X) := ⟨h.1, h.2⟩
theorem off3_two {I C D a b : Nat} {o o' p p' : Obj} {tl X : List (Addr × Obj)} (h : LCg.Off3 I C D ((a, o) :: (b, p) :: X)) (h2 : LCg.Off3 I C D (tl ++ X)) : LCg.Off3 I C D ((a, o') :: (b, p') :: (tl ++ X)) := ⟨h.1, h.2.1, h2⟩
/-- a turn that counts one number -/
noncomputable def CntEnd (h₀ : Heap) (L : Addr) (m : Str → Option Value) (s₁ : Shared) (I C D : Nat) (oI oC oD : Obj) (a : Nat) (rest : List (Addr × Obj)) (ms : List Int) (k : Int) (y : Value) (s₂ : Shared) : Prop :=
  ∃ h' tk vs n t l', s₂ = { s₁ with heap := h', toks := tk } ∧ Fr h₀ L h' m ∧ News h₀ L h' l' ∧ (I, oI) ∈ l' ∧ (C, oC) ∈ l' ∧ (D, oD) ∈ l' ∧ (∀ p ∈ (a, listOf vs.toArray n) :: rest, p ∈ l') ∧ y = .int (idx1 ms k) t ∧ IntsAre vs (cntL ms k) ∧ Met (cntL ms k)
theorem CntEnd.mk {s₁ : Shared} {I C D a : Nat} {oI oC oD : Obj} {ms : List Int} {k : Int} {h' : Heap} {tk n : Nat} {vs : List Value} {t : Tok} {l' : List (Addr × Obj)} (F : Fr h₀ L h' m) (N : News h₀ L h' l') (h1 : (I, oI) ∈ l') (h2 : (C, oC) ∈ l') (h3 : (D, oD) ∈ l') (h4 : (a, listOf vs.toArray n) ∈ l') (h5 : ∀ p ∈ rest, p ∈ l') (hi : IntsAre vs (cntL ms k)) (hm : Met (cntL ms k)) :
    CntEnd h₀ L m s₁ I C D oI oC oD a rest ms k (.int (idx1 ms k) t) { s₁ with heap := h', toks := tk } := ⟨h', tk, vs, n, t, l', rfl, F, N, h1, h2, h3, fun p hp => by
    rcases List.mem_cons.mp hp with rfl | hp
    · exact h4
    · exact h5 p hp, rfl, hi, hm⟩
/-- a comprehension over a tuple of numbers that counts them -/
theorem comp_cnt {elt : Expr} {x : Str} {scope : Scope} {cl : List (Str × Addr)} {ax a : Nat} {vs ws : List Value} {n n0 : Nat} {ms ks : List Int} {Fin : Shared → List Value → List (Addr × Obj) → Prop}
    (hh : A.handled = none) (F : Fr h₀ L s.heap m) (N : News h₀ L s.heap l) (e : Ext (a, listOf vs.toArray n) l rest) (hm : (ax, ({ cls := .type "tuple", data := .seq ws.toArray n0 } : Obj)) ∈ rest) (hsz : ws.length ≤ 1000) (hk : IntsAre ws ks) (hi : IntsAre vs ms) (hM : Met ms)
    (step : ∀ i ys vs n k t, k ∈ ks → IntsAre vs (cntAll ms (ks.take i)) → Met (cntAll ms (ks.take i)) → ∀ I oI C oC D m₂ h tk (E' : Value → Shared → Prop), LCg.NsObj oC m₂ → m₂ x = some (.int k t) → Fr h₀ L h m → News h₀ L h ((I, oI) :: (C, oC) :: (D, LCg.lst ys) :: (a, listOf vs.toArray n) :: rest) → LCg.Off3 I C D ((a, listOf vs.toArray n) :: rest) →
      wpAny (model prog w) A (eval elt (compEnvC scope cl C env)) (CntEnd h₀ L m { s with heap := h, toks := tk } I C D oI oC (LCg.lst ys) a rest (cntAll ms (ks.take i)) k) E' { s with heap := h, toks := tk })
    (fin : ∀ g ys vs n, IntsAre vs (cntAll ms ks) → Met (cntAll ms ks) → IntsAre ys (idxs ms ks) → Fin { s with heap := g } ys ((a, listOf vs.toArray n) :: rest)) : SrcT prog w A h₀ L m env elt x scope cl Fin (.ref ax) s := by
  refine comp_tup (σ := List Value × Nat) (fun y => (a, listOf y.1.toArray y.2) :: rest) (fun i ys y => IntsAre y.1 (cntAll ms (ks.take i)) ∧ Met (cntAll ms (ks.take i)) ∧ IntsAre ys (idxs ms (ks.take i))) (vs, n) hh F (e.news N) (fun _ h => h) (fun y => List.mem_cons_of_mem _ hm) hsz ⟨hi, hM, .nil⟩ ?_ ?_
  · rintro i ys ⟨vs', n'⟩ v ev ⟨h1, h2, h3⟩ I oI C oC D m₂ h tk E' a1 a2 F' N' a3
    obtain ⟨k, t, rfl, ek, hk'⟩ := ints_at hk ev
    refine wpAny_mono (step i ys vs' n' k t hk' h1 h2 I oI C oC D m₂ h tk E' a1 a2 F' N' a3) (fun y s2 q => ?_) fun _ _ q => q
    obtain ⟨h', tk', vs2, n2, t2, l', rfl, F2, N2, b1, b2, b3, b4, rfl, b5, b6⟩ := q
    refine TurnEnd.mk (vs2, n2) F2 N2 b1 b2 b3 b4 (off3_sub a3) ?_
    rw [take_snoc ek, cntAll_snoc, idxs_snoc]
    exact ⟨b5, b6, h3.append (.cons _ _ .nil)⟩
  · rintro g ys ⟨vs', n'⟩ ⟨h1, h2, h3⟩
    rw [hk.length, List.take_length] at h1 h2 h3
    exact fin g ys vs' n' h1 h2 h3
/-- a turn that writes one part -/
noncomputable def WrEnd (h₀ : Heap) (L : Addr) (m : Str → Option Value) (s₁ : Shared) (I C D : Nat) (oI oC oD : Obj) (a b : Nat) (rest tl : List (Addr × Obj)) (t : T) (ms ls : List Int) (y : Value) (s₂ : Shared) : Prop :=
  ∃ h' tk vs n us n2 tl' l', s₂ = { s₁ with heap := h', toks := tk } ∧ Fr h₀ L h' m ∧ News h₀ L h' l' ∧ (I, oI) ∈ l' ∧ (C, oC) ∈ l' ∧ (D, oD) ∈ l' ∧ (a, listOf vs.toArray n) ∈ l' ∧ (b, listOf us.toArray n2) ∈ l' ∧ (∀ p ∈ tl', p ∈ l') ∧ (∀ p ∈ tl ++ rest, p ∈ l') ∧
    IntsAre vs (msT t ms) ∧ Met (msT t ms) ∧ IntsAre us (lsT t ls) ∧ Met (lsT t ls) ∧ DatIn tl' y (wrD t ms ls) ∧ (∀ p ∈ tl', p.1 ≠ a) ∧ (∀ p ∈ tl', p.1 ≠ b) ∧ (∀ p ∈ tl', ∀ q ∈ (I, oI) :: (C, oC) :: (D, oD) :: (tl ++ rest), q.1 ≠ p.1)
theorem WrEnd.mk {s₁ : Shared} {I C D a b : Nat} {oI oC oD : Obj} {ms ls : List Int} {t : T} {h' : Heap} {tk n n2 : Nat} {vs us : List Value} {y : Value} {tl tl' l' : List (Addr × Obj)} (F : Fr h₀ L h' m) (N : News h₀ L h' l') (h1 : (I, oI) ∈ l') (h2 : (C, oC) ∈ l') (h3 : (D, oD) ∈ l') (h4 : (a, listOf vs.toArray n) ∈ l') (h5 : (b, listOf us.toArray n2) ∈ l') (h6 : ∀ p ∈ tl', p ∈ l') (h7 : ∀ p ∈ tl ++ rest, p ∈ l')
    (hi : IntsAre vs (msT t ms)) (hm : Met (msT t ms)) (hj : IntsAre us (lsT t ls)) (hl : Met (lsT t ls)) (hd : DatIn tl' y (wrD t ms ls)) (ha : ∀ p ∈ tl', p.1 ≠ a) (hb : ∀ p ∈ tl', p.1 ≠ b) (hf : ∀ p ∈ tl', ∀ q ∈ (I, oI) :: (C, oC) :: (D, oD) :: (tl ++ rest), q.1 ≠ p.1) :
    WrEnd h₀ L m s₁ I C D oI oC oD a b rest tl t ms ls y { s₁ with heap := h', toks := tk } := ⟨h', tk, vs, n, us, n2, tl', l', rfl, F, N, h1, h2, h3, h4, h5, h6, h7, hi, hm, hj, hl, hd, ha, hb, hf⟩
structure WrSt where
  vs : List Value
  n : Nat
  us : List Value
  n2 : Nat
  tl : List (Addr × Obj)
/-- a comprehension over the parts that writes them -/
theorem comp_wr {elt : Expr} {x : Str} {scope : Scope} {cl : List (Str × Addr)} {ax a b : Nat} {vs us ws : List Value} {n n2 n0 : Nat} {ms ls : List Int} {ts : List T} {Fin : Shared → List Value → List (Addr × Obj) → Prop}
    (hh : A.handled = none) (F : Fr h₀ L s.heap m) (N : News h₀ L s.heap l) (e1 : Ext (a, listOf vs.toArray n) l l1) (e2 : Ext (b, listOf us.toArray n2) l1 rest) (hm : (ax, ({ cls := .type "tuple", data := .seq ws.toArray n0 } : Obj)) ∈ rest) (hsz : ws.length ≤ 1000) (ht : TreesIn imm ts ws)
    (hi : IntsAre vs ms) (hM : Met ms) (hj : IntsAre us ls) (hL : Met ls) (hna : ∀ p ∈ rest, p.1 ≠ a) (hnb : ∀ p ∈ rest, p.1 ≠ b)
    (step : ∀ i ys vs n us n2 tl t v, t ∈ ts → TreeIn imm t v → IntsAre vs (msTs (ts.take i) ms) → Met (msTs (ts.take i) ms) → IntsAre us (lsTs (ts.take i) ls) → Met (lsTs (ts.take i) ls) → (∀ p ∈ tl ++ rest, p.1 ≠ a) → (∀ p ∈ tl ++ rest, p.1 ≠ b) → ∀ I oI C oC D m₂ h tk (E' : Value → Shared → Prop), LCg.NsObj oC m₂ → m₂ x = some v → Fr h₀ L h m →
      News h₀ L h ((I, oI) :: (C, oC) :: (D, LCg.lst ys) :: (a, listOf vs.toArray n) :: (b, listOf us.toArray n2) :: (tl ++ rest)) → LCg.Off3 I C D ((a, listOf vs.toArray n) :: (b, listOf us.toArray n2) :: (tl ++ rest)) →
      wpAny (model prog w) A (eval elt (compEnvC scope cl C env)) (WrEnd h₀ L m { s with heap := h, toks := tk } I C D oI oC (LCg.lst ys) a b rest tl t (msTs (ts.take i) ms) (lsTs (ts.take i) ls)) E' { s with heap := h, toks := tk })
    (fin : ∀ g ys vs n us n2 tl, IntsAre vs (msTs ts ms) → Met (msTs ts ms) → IntsAre us (lsTs ts ls) → Met (lsTs ts ls) → DatAll tl ys (wrDs ts ms ls) → (∀ p ∈ tl, ∀ q ∈ rest, q.1 ≠ p.1) → (∀ p ∈ tl, p.1 ≠ a) → (∀ p ∈ tl, p.1 ≠ b) → Fin { s with heap := g } ys ((a, listOf vs.toArray n) :: (b, listOf us.toArray n2) :: (tl ++ rest))) : SrcT prog w A h₀ L m env elt x scope cl Fin (.ref ax) s := by
  refine comp_tup (σ := WrSt) (fun y => (a, listOf y.vs.toArray y.n) :: (b, listOf y.us.toArray y.n2) :: (y.tl ++ rest)) (fun i ys y => IntsAre y.vs (msTs (ts.take i) ms) ∧ Met (msTs (ts.take i) ms) ∧ IntsAre y.us (lsTs (ts.take i) ls) ∧ Met (lsTs (ts.take i) ls) ∧ DatAll y.tl ys (wrDs (ts.take i) ms ls) ∧ (∀ p ∈ y.tl, ∀ q ∈ rest, q.1 ≠ p.1) ∧ (∀ p ∈ y.tl, p.1 ≠ a) ∧ (∀ p ∈ y.tl, p.1 ≠ b)) ⟨vs, n, us, n2, []⟩ hh F (l := (a, listOf vs.toArray n) :: (b, listOf us.toArray n2) :: rest) ?_ (fun _ h => h) (fun y => List.mem_cons_of_mem _ (List.mem_cons_of_mem _ (List.mem_append_right _ hm))) hsz ⟨hi, hM, hj, hL, .nil, (fun _ h => (nomatch h)), (fun _ h => (nomatch h)), (fun _ h => (nomatch h))⟩ ?_ ?_
  · have N1 : News h₀ L s.heap l1 := fun p hp => e1.news N p (.tail _ hp)
    exact news_cons N ((e1.mem _).mpr (.inl rfl)) (e2.news N1)
  · rintro i ys ⟨vs', n', us', n2', tl⟩ v ev ⟨h1, h2, h3, h4, h5, h6, h7, h8⟩ I oI C oC D m₂ h tk E' a1 a2 F' N' a3
    obtain ⟨t, t1, t2, t3⟩ := ht.at ev
    refine wpAny_mono (step i ys vs' n' us' n2' tl t v t1 t3 h1 h2 h3 h4 (fun p hp => (List.mem_append.mp hp).elim (h7 p) (hna p)) (fun p hp => (List.mem_append.mp hp).elim (h8 p) (hnb p)) I oI C oC D m₂ h tk E' a1 a2 F' N' a3) (fun y s2 q => ?_) fun _ _ q => q
    obtain ⟨h', tk', vs2, m2, us2, m3, tl', l', rfl, F2, N2, b1, b2, b3, b4, b5, b6, b7, c1, c2, c3, c4, c5, c6, c7, c8⟩ := q
    refine TurnEnd.mk (⟨vs2, m2, us2, m3, tl' ++ tl⟩ : WrSt) F2 N2 b1 b2 b3 (fun p hp => ?_) ?_ ?_
    · rcases List.mem_cons.mp hp with rfl | hp
      · exact b4
      · rcases List.mem_cons.mp hp with rfl | hp
        · exact b5
        · have hp : p ∈ (tl' ++ tl) ++ rest := hp
          rw [List.append_assoc] at hp
          exact (List.mem_append.mp hp).elim (b6 p) (b7 p)
    · show LCg.Off3 I C D ((a, listOf vs2.toArray m2) :: (b, listOf us2.toArray m3) :: ((tl' ++ tl) ++ rest))
      rw [List.append_assoc]
      exact ⟨a3.1, a3.2.1, off3_app c8 a3.2.2⟩
    · dsimp only
      rw [take_snoc t2, msTs_snoc, lsTs_snoc, wrDs_snoc]
      refine ⟨c1, c2, c3, c4, ?_, fun p hp q hq => ?_, fun p hp => (List.mem_append.mp hp).elim (c6 p) (h7 p), fun p hp => (List.mem_append.mp hp).elim (c7 p) (h8 p)⟩
      · exact dat_snoc (DatAll.mono (fun p hp => List.mem_append_right _ hp) h5) (DatIn.mono (fun p hp => List.mem_append_left _ hp) c5)
      · exact (List.mem_append.mp hp).elim (fun h => c8 p h q (.tail _ (.tail _ (.tail _ (List.mem_append_right _ hq))))) fun h => h6 p h q hq
  · rintro g ys ⟨vs', n', us', n2', tl⟩ ⟨h1, h2, h3, h4, h5, h6, h7, h8⟩
    rw [show ws.length = ts.length from ht.length, List.take_length] at h1 h2 h3 h4 h5
    exact fin g ys vs' n' us' n2' tl h1 h2 h3 h4 h5 h6 h7 h8
end
end
section
set_option maxHeartbeats 6000000
theorem kw27 : True := by
  k_with_none
  k_with "ke_room" => (first | ((have hcL9ZZ := cLine_is; simp only [units_in1, units_deeper, Around.mark_units, units_caller]; (try dsimp only [arTop]); omega)) | fail)
  k_with "k_units" => (first | (ke_room) | fail)
  k_with "units_room" => (first | (ke_room) | fail)
  k_with "k_room" => (first | (((try simp only [depth_under_make, depth_under_kw, depth_in1, depth_deeper, depth_caller]); (try dsimp only [arTop]); (try simp only [recursionLimit]); omega)) | fail)
  k_with "ktr_room" => (first | (k_room) | fail)
  k_with "ktr_member" => (first | (first | exact allLt_ne (by with_reducible assumption) | exact allLt_ne1 (by with_reducible assumption) | exact allLt_ne2 (by with_reducible assumption) | exact off3_I (by with_reducible assumption) | exact off3_C (by with_reducible assumption) | exact off3_D (by with_reducible assumption) | exact off1_D (by with_reducible assumption)) | fail)
  k_with "k_ne" => (first | ((refine neN ?_; (try dsimp only); first | with_reducible assumption | exact Ne.symm (by with_reducible assumption) | exact Nat.ne_of_lt (by with_reducible assumption) | exact Nat.ne_of_gt (by with_reducible assumption) | omega)) | fail)
  k_with "kst_all" => (first | (first | with_reducible assumption | ktr_member | exact off_app (by first | with_reducible assumption | ktr_member) | exact off_app (off_app (by first | with_reducible assumption | ktr_member)) | exact off_app (off_app (off_app (by first | with_reducible assumption | ktr_member)))) | fail)
  k_with "kst_mem" => (first | ((refine' fil_mem ?aQ9 ?bQ9; (case aQ9 => k_mem); (case bQ9 => k_all))) | fail)
  k_with "kst_p" => (first | ((refine' fil_tree ?aQ10 ?bQ10 ?cQ10; (case aQ10 => with_reducible assumption); (case bQ10 => tb_start); (case cQ10 => exact fr_tl (by with_reducible assumption) (by with_reducible assumption) (by with_reducible assumption) (by with_reducible assumption) (by tb_start)))) | fail)
  k_with "k_all" => (first | (first | exact List.forall_mem_nil _ | (refine' List.forall_mem_cons.mpr ⟨?aQ11, ?bQ11⟩; (case aQ11 => k_ne); (case bQ11 => k_all)) | kst_all) | fail)
  k_with "lcg_off" => (first | (first | exact True.intro | (refine And.intro ⟨?aQ12, ?bQ12, ?cQ12⟩ ?dQ12; (case aQ12 => k_ne); (case bQ12 => k_ne); (case cQ12 => k_ne); (case dQ12 => lcg_off)) | with_reducible assumption | exact off3_of (by first | with_reducible assumption | ktr_member) (by first | with_reducible assumption | ktr_member) (by first | with_reducible assumption | ktr_member)) | fail)
  k_with "tb_rel" => (first | (first | with_reducible assumption | (refine List.mem_cons_of_mem _ ?_; tb_rel) | (refine List.mem_append.mpr (Or.inr ?_); tb_rel) | (refine List.mem_append.mpr (Or.inl ?_); tb_rel)) | fail)
  k_with "tb_start" => (first | ((intro p9ZZ hp9ZZ; tb_rel)) | fail)
  k_with "tbn_lt" => (first | (first | exact Ext.head | (refine' Ext.tail ?aQ15; (case aQ15 => tbn_lt))) | fail)
  k_with "tbn_below" => (first | (first | (refine' Split.cons ?aQ16; (case aQ16 => tbn_below)) | exact Split.base) | fail)
  k_with "tbn_conj" => (first | (first | exact True.intro | (refine' And.intro ?aQ17 ?bQ17; (case aQ17 => first | with_reducible assumption | ktr_member); (case bQ17 => tbn_conj))) | fail)
  k_with "my ite" => ((k_closed; first | (refine' iteBT ?p9Q18 ?_; (case p9Q18 => decide)) | (refine' iteBF ?p9Q18 ?_; (case p9Q18 => decide))))
  k_with "my CompEnd" => ((k_here; k_dflt (refine' comp_end ?FQ19 ?NQ19 ?e1Q19 ?e2Q19 ?e3Q19 ?offQ19 ?_; (case FQ19 => k_asm); (case NQ19 => k_asm); (case e1Q19 => tbn_lt); (case e2Q19 => tbn_lt); (case e3Q19 => tbn_lt); (case offQ19 => lcg_off))))
  k_with "my CompSrc" => ((k_here; k_dflt (refine LCg.CompSrc.range (by rfl) (by k_asm) (by k_asm) (by assumption) (by first | decide | rfl) (by first | rfl | decide) (by first | size_fits | exact Nat.le_of_ble_eq_true rfl) ?_; intro g'ZZ; lcg_lit)))
  k_with "my CompRest" => ((with_unfolding_all first | (refine LCg.CompRest.succ ?_; intro v'ZZ I'ZZ oI'ZZ C'ZZ oC'ZZ D'ZZ m'ZZ h'ZZ tk'ZZ E'ZZ hv'ZZ hC'ZZ hx'ZZ F'ZZ N'ZZ off'ZZ ne'ZZ; (first | lcg_open hv'ZZ | (obtain ⟨t9'ZZ, hv9'ZZ⟩ := hv'ZZ; subst hv9'ZZ)); (try dsimp only [LCg.Off3] at off'ZZ); (refine let_goal ?_); intro G9ZZ; (repeat (with_reducible obtain ⟨⟨_, _, _⟩, off'ZZ⟩ := off'ZZ)); (obtain ⟨_, _, _⟩ := ne'ZZ); k_unfold; clear G9ZZ) | refine LCg.CompRest.zero ?_))
  k_with "my FinE" => (((unfold LCg.FinE); intro D'ZZ h'ZZ tk'ZZ F'ZZ N'ZZ o1'ZZ; (try dsimp only [LCg.Off1] at o1'ZZ); (refine let_goal ?_); intro G9ZZ; (repeat (with_reducible obtain ⟨_, o1'ZZ⟩ := o1'ZZ)); k_unfold; clear G9ZZ; (try simp only [List.nil_append, List.cons_append] at N'ZZ); (try dsimp only)))
  trivial
/-- behind the tests: what is written for the head -/
noncomputable def WrJ (h₀ : Heap) (L : Addr) (m : Str → Option Value) (s : Shared) (a b : Nat) (h : Hd) (ms ls : List Int) (rest : List (Addr × Obj)) (s' : Shared) : Prop :=
  ∃ g tk xw o1 o2 vs n us n2 tl, s' = { s with heap := g, toks := tk } ∧ Fr h₀ L g (fun z => if z = "_law_what" then some xw else if z = "_law_binders" then o1 else if z = "_law_label" then o2 else m z) ∧
    News h₀ L g ((a, listOf vs.toArray n) :: (b, listOf us.toArray n2) :: (tl ++ rest)) ∧ IntsAre vs (msH h ms) ∧ Met (msH h ms) ∧ IntsAre us (lsH h ls) ∧ Met (lsH h ls) ∧ DatIn tl xw (whatD h ms ls) ∧ (∀ p ∈ tl, ∀ q ∈ rest, q.1 ≠ p.1) ∧ (∀ p ∈ tl, p.1 ≠ a) ∧ (∀ p ∈ tl, p.1 ≠ b)
section
variable {h₀ : Heap} {L : Addr} {m : Str → Option Value} {s : Shared} {l l1 rest : List (Addr × Obj)}
theorem wr_cut {M : Model} {A : Around} {E : Value → Shared → Prop} {st : Stmt} {env : Env} {Q : Flow → Shared → Prop} {P : Shared → Prop} {a b n n2 : Nat} {vs us : List Value} (h : Hd) (ms ls : List Int) (F : Fr h₀ L s.heap m) (_N : News h₀ L s.heap l) (_e1 : Ext (a, listOf vs.toArray n) l l1) (_e2 : Ext (b, listOf us.toArray n2) l1 rest)
    (h1 : wpAny M A (exec st env) (fun f s' => match f with | .next => WrJ h₀ L m s a b h ms ls rest s' | f => Q f s') E s) (h2 : ∀ s', WrJ h₀ L m s a b h ms ls rest s' → P s') :
    wpAny M A (exec st env) (fun f s' => match f with | .next => P s' | f => Q f s') E s :=
  wpAny_mono h1 (fun f s' h => by
    cases f with
    | next => exact h2 s' h
    | _ => exact h) fun _ _ h => h
theorem fr_eqm {g : Heap} {m1 m2 : Str → Option Value} (F : Fr h₀ L g m1) (e : ∀ z, m1 z = m2 z) : Fr h₀ L g m2 := by
  have : m1 = m2 := funext e
  rw [← this]; exact F
/-- the map of a frame in which some of three names are stored -/
theorem fr_what {g : Heap} {v : Value} (F : Fr h₀ L g (fun z => if z = "_law_what" then some v else m z)) : Fr h₀ L g (fun z => if z = "_law_what" then some v else if z = "_law_binders" then m "_law_binders" else if z = "_law_label" then m "_law_label" else m z) :=
  fr_eqm F fun z => by
    by_cases h1 : z = "_law_what"
    · rw [if_pos h1, if_pos h1]
    · rw [if_neg h1, if_neg h1]
      by_cases h2 : z = "_law_binders"
      · rw [if_pos h2, h2]
      · rw [if_neg h2]
        by_cases h3 : z = "_law_label"
        · rw [if_pos h3, h3]
        · rw [if_neg h3]
theorem fr_asis {g : Heap} {v : Value} (F : Fr h₀ L g m) (e : m "_law_what" = some v) : Fr h₀ L g (fun z => if z = "_law_what" then some v else m z) :=
  fr_eqm F fun z => by
    by_cases h1 : z = "_law_what"
    · rw [if_pos h1, h1, e]
    · rw [if_neg h1]
theorem WrJ.mk {a b n n2 : Nat} {h : Hd} {ms ls : List Int} {vs us : List Value} {tl l9 : List (Addr × Obj)} {g : Heap} {tk : Nat} {xw : Value} {o1 o2 : Option Value} (F : Fr h₀ L g (fun z => if z = "_law_what" then some xw else if z = "_law_binders" then o1 else if z = "_law_label" then o2 else m z)) (N : News h₀ L g l9)
    (m1 : (a, listOf vs.toArray n) ∈ l9) (m2 : (b, listOf us.toArray n2) ∈ l9) (sub : ∀ p ∈ rest, p ∈ l9) (hi : IntsAre vs (msH h ms)) (hm : Met (msH h ms)) (hj : IntsAre us (lsH h ls)) (hl : Met (lsH h ls)) (st : ∀ p ∈ tl, p ∈ l9) (hd : DatIn tl xw (whatD h ms ls)) (f1 : ∀ p ∈ tl, ∀ q ∈ rest, q.1 ≠ p.1) (f2 : ∀ p ∈ tl, p.1 ≠ a) (f3 : ∀ p ∈ tl, p.1 ≠ b) :
    WrJ h₀ L m s a b h ms ls rest { s with heap := g, toks := tk } :=
  ⟨g, tk, xw, o1, o2, vs, n, us, n2, tl, rfl, F, news_cons N m1 (news_cons N m2 (news_app (news_sub N st) (news_sub N sub))), hi, hm, hj, hl, hd, f1, f2, f3⟩
theorem wh_loc {w : Str} {k : Int} {ms ls : List Int} {tl : List (Addr × Obj)} {t : Tok} (h : isLoc w = true) : DatIn tl (.int (idx1 ms k) t) (whatD (.s w k) ms ls) := by unfold whatD; dsimp only; rw [if_pos h]; exact .int _ _
theorem wh_nil {w : Str} {k : Int} {ms ls : List Int} {tl : List (Addr × Obj)} {t : Tok} (h : isLoc w = false) (h' : isNil w = true) : DatIn tl (.int 0 t) (whatD (.s w k) ms ls) := by unfold whatD; dsimp only; rw [if_neg (by rw [h]; decide), if_pos h']; exact .int _ _
theorem wh_int {w : Str} {k : Int} {ms ls : List Int} {tl : List (Addr × Obj)} {t : Tok} (h : isLoc w = false) (h' : isNil w = false) : DatIn tl (.int k t) (whatD (.s w k) ms ls) := by unfold whatD; dsimp only; rw [if_neg (by rw [h]; decide), if_neg (by rw [h']; decide)]; exact .int _ _
theorem ms_loc {w : Str} {k : Int} {ms : List Int} (h : isLoc w = true) : cntL ms k = msH (.s w k) ms := by unfold msH; dsimp only; rw [if_pos h]
theorem ms_no {w : Str} {k : Int} {ms : List Int} (h : isLoc w = false) : ms = msH (.s w k) ms := by unfold msH; dsimp only; rw [if_neg (by rw [h]; decide)]
end
/-- yet another mark -/
noncomputable def Mk4 : Prop := True
theorem Mk4.mk : Mk4 := trivial
section
variable {h₀ : Heap} {L : Addr} {m : Str → Option Value} {s : Shared} {l nw rest imm : List (Addr × Obj)}
noncomputable def TupAt (h₀ : Heap) (L : Addr) (m : Str → Option Value) (l : List (Addr × Obj)) (s : Shared) (ws : List Value) (v : Value) (s' : Shared) : Prop :=
  ∃ D n g tk, v = .ref D ∧ s' = { s with heap := g, toks := tk } ∧ Fr h₀ L g m ∧ News h₀ L g ((D, tup ws n) :: l)
theorem TupAt.mk {ws ws' : List Value} {D n : Nat} {g : Heap} {tk : Nat} (e : ws' = ws) (F : Fr h₀ L g m) (N : News h₀ L g ((D, tup ws' n) :: l)) : TupAt h₀ L m l s ws (.ref D) { s with heap := g, toks := tk } := by
  subst e; exact ⟨D, n, g, tk, rfl, rfl, F, N⟩
theorem tup_cut {M : Model} {A : Around} {E : Value → Shared → Prop} {t : Sem Value} {Q : Value → Shared → Prop} (ws : List Value) (F : Fr h₀ L s.heap m) (N : News h₀ L s.heap l) (h1 : wpAny M A t (TupAt h₀ L m l s ws) E s)
    (h2 : ∀ D n g tk, Fr h₀ L g m → News h₀ L g ((D, tup ws n) :: l) → Q (.ref D) { s with heap := g, toks := tk }) : wpAny M A t Q E s :=
  wpAny_mono h1 (fun v s' h => by obtain ⟨D, n, g, tk, rfl, rfl, F, N⟩ := h; exact h2 D n g tk F N) fun _ _ h => h
theorem fresh2 {a b D : Nat} {o1 o2 p1 p2 : Obj} (l1 : ∀ p ∈ nw, p.1 < D) (h1 : (a, p1) ∈ nw) (h2 : (b, p2) ∈ nw) (sub : ∀ p ∈ rest, p ∈ nw) : ∀ q ∈ (a, o1) :: (b, o2) :: rest, q.1 ≠ D := fun q hq => by
  rcases List.mem_cons.mp hq with rfl | hq
  · exact Nat.ne_of_lt (l1 (a, p1) h1)
  · rcases List.mem_cons.mp hq with rfl | hq
    · exact Nat.ne_of_lt (l1 (b, p2) h2)
    · exact Nat.ne_of_lt (l1 _ (sub _ hq))
theorem WrJ.fil {a b n n2 : Nat} {h : Hd} {ms ls : List Int} {vs us : List Value} {l9 : List (Addr × Obj)} {g : Heap} {tk : Nat} {xw : Value} {o1 o2 : Option Value} (x1 x2 : Obj) (F : Fr h₀ L g (fun z => if z = "_law_what" then some xw else if z = "_law_binders" then o1 else if z = "_law_label" then o2 else m z)) (N : News h₀ L g l9)
    (m1 : (a, listOf vs.toArray n) ∈ l9) (m2 : (b, listOf us.toArray n2) ∈ l9) (sub : ∀ p ∈ rest, p ∈ l9) (hi : IntsAre vs (msH h ms)) (hm : Met (msH h ms)) (hj : IntsAre us (lsH h ls)) (hl : Met (lsH h ls)) (hd : DatIn (fil ((a, x1) :: (b, x2) :: rest) l9) xw (whatD h ms ls)) :
    WrJ h₀ L m s a b h ms ls rest { s with heap := g, toks := tk } :=
  .mk F N m1 m2 sub hi hm hj hl fil_sub hd (fun p hp q hq => fil_fresh p hp q (.tail _ (.tail _ hq))) (fun p hp => Ne.symm (fil_fresh p hp _ (.head _))) (fun p hp => Ne.symm (fil_fresh p hp _ (.tail _ (.head _))))
theorem bnd_ints {us : List Value} {ps : List Int} {r : Int} {t : Tok} (h : IntsAre us ps) : IntsAre (us ++ if 0 ≤ r then [.int r t] else []) (bnd ps r) := by
  unfold bnd
  split
  · exact h.append (.cons _ _ .nil)
  · exact h.append .nil
theorem bnd_in3 {c n : Nat} {l r : Int} {ps : List Int} (h : wfh c (.lam l ps r) n) : ∀ k ∈ bnd ps r, in3 k := fun k hk => by
  unfold bnd at hk
  rcases List.mem_append.mp hk with hk | hk
  · exact h.2.1 k hk
  · split at hk
    · rename_i h0; rw [List.mem_singleton.mp hk]; exact ⟨h0, h.2.2.2.1.2.2⟩
    · cases hk
theorem if_len {P : Prop} [Decidable P] {v : Value} : (if P then [v] else []).length ≤ 1 := by split <;> simp
theorem idxs_len : ∀ {ks ms : List Int}, (idxs ms ks).length = ks.length
  | [], _ => rfl
  | _ :: ks, ms => by rw [idxs, List.length_cons, List.length_cons, idxs_len]
theorem bnd_len {ps : List Int} {r : Int} (h : ps.length ≤ 3) : (bnd ps r).length ≤ 1000 := by
  unfold bnd
  rw [List.length_append]
  split <;> simp <;> omega
theorem tup_szB {ys : List Value} (h : ys.length ≤ 1000) : ys.toArray.size ≤ 16384 := by rw [List.size_toArray]; omega
theorem wh_lam {news : List (Addr × Obj)} {l r : Int} {ps ms ls : List Int} {D D' n n' : Nat} {t : Tok} {ys : List Value} (hi : IntsAre ys (idxs ms (bnd ps r))) (h1 : (D, tup [.int (idx1 ls l) t, .ref D', .bool (decide (0 ≤ r))] n) ∈ news) (h2 : (D', tup ys n') ∈ news) : DatIn news (.ref D) (whatD (.lam l ps r) ms ls) :=
  .tuple h1 (.cons (.int _ _) (.cons (.tuple h2 (ints_dat hi)) (.cons (.bool _) .nil)))
theorem wh_fix {news : List (Addr × Obj)} {k : Int} {ms ls : List Int} {D n : Nat} {ys : List Value} (hi : IntsAre ys (idxs ms [k])) (h1 : (D, tup ys n) ∈ news) : DatIn news (.ref D) (whatD (.fix k) ms ls) :=
  .tuple h1 (ints_dat hi)
end
theorem wr_ih {prog : Program} {w : World} {ts : List T} {t : T} (h : ∀ t ∈ ts, WrSpec prog w t) (k : t ∈ ts) : WrSpec prog w t := h t k
theorem room_in4 {dp : Nat} {h : Hd} {ts : List T} {t : T} (x : dp + ((T.node h ts).depth + 14) < 1000) (ht : t ∈ ts) : dp + 1 + (t.depth + 14) < 1000 := by have := T.mem_depth (h := h) ht; rw [T.depth] at x; omega
theorem un_in6 {un u : Nat} {h : Hd} {ts : List T} {t : T} (x : un + (20 * (T.node h ts).depth + 600) < 9900) (ht : t ∈ ts) (k : u ≤ un + 20) : u + (20 * t.depth + 600) < 9900 := by have := T.mem_depth (h := h) ht; rw [T.depth] at x; omega
theorem dats_len {news : List (Addr × Obj)} : ∀ {vs : List Value} {ds : List Dat}, DatAll news vs ds → vs.length = ds.length
  | _, _, .nil => rfl
  | _, _, .cons _ r => by rw [List.length_cons, List.length_cons, dats_len r]
theorem wrDs_len : ∀ {ts : List T} {ms ls : List Int}, (wrDs ts ms ls).length = ts.length
  | [], _, _ => rfl
  | _ :: ts, ms, ls => by rw [wrDs, List.length_cons, List.length_cons, wrDs_len]
theorem fil_sub2 {a b : Nat} {o1 o2 : Obj} {tl l9 rest imm : List (Addr × Obj)} (s : ∀ p ∈ tl, p ∈ l9) (f : ∀ p ∈ tl, ∀ q ∈ rest, q.1 ≠ p.1) (fa : ∀ p ∈ tl, p.1 ≠ a) (fb : ∀ p ∈ tl, p.1 ≠ b) (si : ∀ p ∈ imm, p ∈ rest) : ∀ p ∈ tl, p ∈ fil ((a, o1) :: (b, o2) :: imm) l9 := fun p hp =>
  fil_mem (s p hp) fun q hq => by
    rcases List.mem_cons.mp hq with rfl | hq
    · exact Ne.symm (fa p hp)
    · rcases List.mem_cons.mp hq with rfl | hq
      · exact Ne.symm (fb p hp)
      · exact f p hp q (si q hq)
theorem wr_dat {news tl8 tl6 : List (Addr × Obj)} {h : Hd} {ts : List T} {ms ls : List Int} {D D' n n' : Nat} {t : Tok} {xw : Value} {ys : List Value} (h1 : (D, tup [.str h.word t, xw, .ref D'] n) ∈ news) (h2 : (D', tup ys n') ∈ news) (h3 : DatIn tl8 xw (whatD h ms ls)) (h4 : DatAll tl6 ys (wrDs ts (msH h ms) (lsH h ls)))
    (s3 : ∀ p ∈ tl8, p ∈ news) (s4 : ∀ p ∈ tl6, p ∈ news) : DatIn news (.ref D) (wrD (.node h ts) ms ls) := by
  rw [wrD]
  exact .tuple h1 (.cons (.str _ _) (.cons (h3.mono s3) (.cons (.tuple h2 (h4.mono s4)) .nil)))
theorem kw28 : True := by
  k_with "k_mem" => (first | (first | exact List.Mem.head _ | (refine' List.mem_cons_of_mem _ ?_; k_mem) | with_reducible assumption) | fail)
  k_with "my assign Tuple" => ((k_here; (with_reducible show wpAny _ _ (assign (Expr.Tuple _ _ _) _ (Value.ref _)) _ _ _); k_dflt (refine' unpackN_ ?k1Q105 ?k2Q105 ?k3Q105 ?k4Q105 ?k5Q105 ?k6Q105 ?_; (case k1Q105 => k_asm); (case k2Q105 => k_asm); (case k3Q105 => exact News.isTup (by k_asm) (by k_mem)); (case k4Q105 => exact rfl); (case k5Q105 => exact rfl); (case k6Q105 => exact rfl); k_whole); intro h'ZZ F'ZZ N'ZZ; (try k_sweep)))
  k_with "my subscriptTail" => ((k_here; (with_reducible show wpAny _ _ (subscriptTail _ _ (Value.ref _) (Value.int _ _)) _ _ _); first | k_dflt (refine' item_lst ?NQ106 ?mQ106 ?aQ106 ?bQ106 ?cQ106 ?_ ?dQ106; (case NQ106 => k_asm); (case mQ106 => k_mem); (case aQ106 => decide); (case bQ106 => decide); (case cQ106 => rfl); (case dQ106 => with_unfolding_all rfl); k_whole) | k_dflt (refine' item_tupl ?NQ106 ?mQ106 ?aQ106 ?bQ106 ?cQ106 ?_ ?dQ106; (case NQ106 => k_asm); (case mQ106 => k_mem); (case aQ106 => decide); (case bQ106 => decide); (case cQ106 => rfl); (case dQ106 => with_unfolding_all rfl); k_whole) | ((with_reducible show wpAny _ _ (subscriptTail (Expr.List _ _) _ (Value.ref _) (Value.int _ _)) _ _ _); k_idxSplit)))
  k_with "my subscriptTail Name Constant ref int" => ((k_here; (with_reducible show wpAny _ _ (subscriptTail _ _ (Value.ref _) (Value.int _ _)) _ _ _); first | k_dflt (refine' item_lst ?NQ107 ?mQ107 ?aQ107 ?bQ107 ?cQ107 ?_ ?dQ107; (case NQ107 => k_asm); (case mQ107 => k_mem); (case aQ107 => decide); (case bQ107 => decide); (case cQ107 => rfl); (case dQ107 => with_unfolding_all rfl); k_whole) | k_dflt (refine' item_tupl ?NQ107 ?mQ107 ?aQ107 ?bQ107 ?cQ107 ?_ ?dQ107; (case NQ107 => k_asm); (case mQ107 => k_mem); (case aQ107 => decide); (case bQ107 => decide); (case cQ107 => rfl); (case dQ107 => with_unfolding_all rfl); k_whole) | ((with_reducible show wpAny _ _ (subscriptTail (Expr.List _ _) _ (Value.ref _) (Value.int _ _)) _ _ _); k_idxSplit)))
  k_with "my getItem ref int" => ((k_here; (with_reducible show wpAny _ _ (getItem (Value.ref _) (Value.int _ _)) _ _ _); k_dflt (first | (refine' dict_int ?NQ108 ?mQ108 ?aQ108 ?bQ108 ?cQ108 ?dQ108 ?_; (case NQ108 => k_asm); (case mQ108 => exact List.Mem.head _); (case aQ108 => k_asm); (case bQ108 => k_asm); (case cQ108 => k_asm); (case dQ108 => rfl); k_whole) | (refine' dict_strv ?NQ108 ?mQ108 ?aQ108 ?bQ108 ?cQ108 ?dQ108 ?_; (case NQ108 => k_asm); (case mQ108 => exact List.Mem.head _); (case aQ108 => k_asm); (case bQ108 => k_asm); (case cQ108 => k_asm); (case dQ108 => rfl); k_whole)); intro t'ZZ))
  k_with "my subscriptTail" => ((k_here; (with_reducible show wpAny _ _ (subscriptTail (Expr.Dict _ _ _) _ (Value.ref _) (Value.int _ _)) _ _ _); k_dflt (refine' tab_tail (knd := intKind _ _) (enc := PyData.int) ?TQ109 ?_; (case TQ109 => k_tabat); k_whole)))
  k_with "my exec Assign cons ListComp" => ((k_here; k_dflt (refine Assign_ListComp_T (by k_asm) (by rfl) (by with_unfolding_all rfl) (by with_unfolding_all rfl) (by decide) (by rfl) (by decide) (by rfl) (by rfl) (by rfl) ?_)))
  k_with "my eval ListComp" => ((k_here; k_dflt (refine ListComp_T (by k_asm) (by with_unfolding_all rfl) (by decide) (by rfl) (by decide) (by rfl) ?_)))
  k_with "my exec Assign" => (k_fold)
  k_with "my exec If" => (k_fold)
  k_with "my exec Return" => (k_fold)
  k_with "my exec Expr" => (k_fold)
  k_with "my newTuple" => ((k_here; k_dflt (refine' kup_newTuple ?FQ116 ?NQ116 ?_ ?zQ116; (case FQ116 => k_asm); (case NQ116 => k_asm); (case zQ116 => kmk_size)); intro D'ZZ h'ZZ F'ZZ N'ZZ l1ZZ; clear l1ZZ; (try k_sweep)))
  k_with "my storeName" => ((k_here; k_dflt (refine' storeX_L ?FQ117 ?NQ117 ?_ ?aQ117 ?bQ117; (case FQ117 => k_asm); (case NQ117 => k_asm); (case aQ117 => rfl); (case bQ117 => rfl); k_whole; intro h'ZZ F'ZZ N'ZZ; (try k_sweep)); (refine let_m F'ZZ ?_); clear F'ZZ; intro m'ZZ F'ZZ))
  k_with "k_ne" => (first | ((refine neN ?_; (try dsimp only); first | with_reducible assumption | exact Ne.symm (by with_reducible assumption) | exact neC (by k_asm) (by k_mem) (by k_mem) tl_ne)) | fail)
  k_with "my compareOp In str ref" => ((k_here; k_dflt (refine' in_strs ?NQ119 ?aQ119 ?bQ119 ?_; (case NQ119 => k_asm); (case aQ119 => k_mem); (case bQ119 => first | exact .cons _ _ (.cons _ _ .nil) | exact .cons _ _ (.cons _ _ (.cons _ _ .nil)))); (try dsimp only [List.any_cons, List.any_nil])))
  k_with "k_ne" => (first | ((refine neN ?_; (try dsimp only); first | with_reducible assumption | exact Ne.symm (by with_reducible assumption) | exact neC (by k_asm) (by k_mem) (by k_mem) tl_ne | exact Ne.symm (off3_I (by with_reducible assumption) (_, _) (by k_mem)) | exact Ne.symm (off3_C (by with_reducible assumption) (_, _) (by k_mem)) | exact Ne.symm (off3_D (by with_reducible assumption) (_, _) (by k_mem)) | exact Ne.symm (off1_D (by with_reducible assumption) (_, _) (by k_mem)) | exact Nat.ne_of_lt (by with_reducible assumption) | exact Nat.ne_of_gt (by with_reducible assumption) | omega)) | fail)
  k_with "my call ref" => ((k_here; (with_reducible show wpAny _ _ (call (Value.ref 824) [Value.ref _, Value.int _ _]) _ _ _); k_dflt (refine' count_use ?hfQ121 ?hkQ121 ?BQ121 ?FQ121 ?XQ121 ?NQ121 ?TQ121 ?e1Q121 ?hiQ121 ?hmsQ121 ?hk0Q121 ?hndQ121 ?hd1Q121 ?hu1Q121 ?_; (case hfQ121 => rfl); (case hkQ121 => first | rfl | assumption); (case BQ121 => k_asm); (case FQ121 => k_asm); (case XQ121 => k_in); (case NQ121 => k_asm); (case TQ121 => k_asm); (case e1Q121 => tbn_lt); (case hiQ121 => with_reducible assumption); (case hmsQ121 => with_reducible assumption); (case hk0Q121 => with_reducible assumption); (case hndQ121 => k_all); (case hd1Q121 => k_room); (case hu1Q121 => ke_room)); intro t'ZZ vs'ZZ n'ZZ h'ZZ tk'ZZ F'ZZ N'ZZ hi'ZZ hm'ZZ; (try k_sweep)))
  k_with "my exec If" => (((fail_if_success (with_reducible rename Mk2 => q9ZZ)); refine Stop.out ?_))
  k_with "my exec If" => (((with_reducible show wpAny _ _ (exec (Stmt.If (Expr.Compare (Expr.Name (Str.ofString "_law_word") _) [CmpOp.Eq] _ _) _ _ _) _) _ _ _); (fail_if_success (with_reducible rename Mk3 => q9ZZ)); refine Stop.out ?_))
  k_with "tb_start" => (first | (first | (intro p9ZZ hp9ZZ; tb_rel) | (refine' List.forall_mem_cons.mpr ⟨?aQ124, ?bQ124⟩; (case aQ124 => k_mem); (case bQ124 => tb_start))) | fail)
  k_with "my eval IfExp" => (((with_reducible show wpAny _ _ (eval (Expr.IfExp _ (Expr.Tuple _ _ _) _ _) _) _ _ _); (fail_if_success (with_reducible rename Mk4 => q9ZZ)); refine Stop.out ?_))
  k_with "my binaryOp Add ref ref" => ((k_here; (with_reducible show wpAny _ _ (binaryOp _ (Value.ref _) (Value.ref _)) _ _ _); k_dflt (refine' add_any ?FQ126 ?NQ126 ?aQ126 ?bQ126 ?zQ126 ?_; (case FQ126 => k_asm); (case NQ126 => k_asm); (case aQ126 => k_mem); (case bQ126 => k_mem); (case zQ126 => with_reducible assumption)); intro D'ZZ n'ZZ h'ZZ F'ZZ N'ZZ; (try k_sweep)))
  k_with "my call type:tuple" => ((k_here; (with_reducible show wpAny _ _ (call (Value.type _) [Value.ref _]) _ _ _); k_dflt (refine' kde_tupleOf ?k1Q127 ?k2Q127 ?k3Q127 ?k4Q127 tl_eq ?_; (case k1Q127 => k_asm); (case k2Q127 => k_asm); (case k3Q127 => exact News.isList (by k_asm) (by k_mem)); (case k4Q127 => exact tup_szB (by with_reducible assumption)); k_whole); intro D'ZZ h'ZZ F'ZZ N'ZZ l1ZZ; (try k_sweep)))
  k_with "my newTuple" => ((k_here; k_dflt (refine' kup_newTuple ?FQ128 ?NQ128 ?_ ?zQ128; (case FQ128 => k_asm); (case NQ128 => k_asm); (case zQ128 => kmk_size)); intro D'ZZ h'ZZ F'ZZ N'ZZ l1ZZ; (try k_sweep)))
  k_with "kst_mem" => (first | ((refine' fil_mem ?aQ129 ?bQ129; (case aQ129 => k_mem); (case bQ129 => exact fresh2 (by with_reducible assumption) (by k_mem) (by k_mem) (by tb_start)))) | fail)
  k_with "my call ref" => ((k_here; (with_reducible show wpAny _ _ (call (Value.ref 829) [_, Value.ref _, Value.ref _]) _ _ _); k_dflt (refine' wr_use ?SQ130 ?hfQ130 ?hkQ130 ?BQ130 ?FQ130 ?XQ130 ?NQ130 ?TQ130 ?e1Q130 ?e2Q130 ?hiQ130 ?hmQ130 ?hjQ130 ?hlQ130 ?habQ130 ?hnaQ130 ?hnbQ130 ?subQ130 ?htQ130 ?hwQ130 ?hd1Q130 ?hu1Q130 ?_; (case hfQ130 => rfl); (case hkQ130 => first | rfl | assumption); (case BQ130 => k_asm); (case FQ130 => k_asm); (case XQ130 => k_in); (case NQ130 => k_asm); (case TQ130 => k_asm); (case e1Q130 => tbn_lt); (case e2Q130 => tbn_lt); (case hiQ130 => with_reducible assumption); (case hmQ130 => with_reducible assumption); (case hjQ130 => with_reducible assumption); (case hlQ130 => with_reducible assumption); (case habQ130 => k_ne); (case hnaQ130 => k_all); (case hnbQ130 => k_all); (case htQ130 => with_reducible assumption); (case subQ130 => tb_start); (case SQ130 => exact wr_ih (by with_reducible assumption) (by with_reducible assumption)); (case hwQ130 => exact Mine.T.mem_wf (by with_reducible assumption) (by with_reducible assumption)); (case hd1Q130 => exact room_in4 (by assumption) (by assumption)); (case hu1Q130 => exact un_in6 (by assumption) (by assumption) (by (try simp only [units_in1, units_deeper, Around.mark_units, units_caller]); (try dsimp only [arTop]); omega))); intro r'ZZ vs'ZZ n'ZZ us'ZZ n2'ZZ tl'ZZ h'ZZ tk'ZZ F'ZZ N'ZZ hi'ZZ hm'ZZ hj'ZZ hl'ZZ ha'ZZ hb'ZZ hf'ZZ hd'ZZ; (try k_sweep)))
  k_with "my subscriptTail Name Constant ref int" => ((k_here; (with_reducible show wpAny _ _ (subscriptTail _ _ (Value.ref _) (Value.int _ _)) _ _ _); k_dflt (refine' item_tupl ?NQ131 ?mQ131 ?aQ131 ?bQ131 ?cQ131 ?_ ?dQ131; (case NQ131 => k_asm); (case mQ131 => first | with_reducible assumption | k_mem); (case aQ131 => decide); (case bQ131 => decide); (case cQ131 => rfl); (case dQ131 => with_unfolding_all rfl); k_whole)))
  trivial
theorem wr_step (prog : Program) (w : World) (h : Hd) (ts : List T) (ih : ∀ t ∈ ts, WrSpec prog w t) : WrSpec prog w (.node h ts) := by
  have hfill9 : PySem.Challenge.rw_on0297_01 = PySem.Challenge.rw_on0297_01 ∧ hd.heap_1 = hd.heap_1 := by
    k_fill
    exact ⟨rfl, rfl⟩
  clear hfill9
  intro a b vs n us n2 ms ls v imm hi hm hj hl hab hna hnb ht hw
  obtain ⟨a9, p9, x, t1, m1, m2, vs9, rfl, hm1, hm2, hm3, hm4⟩ := ht.inv
  generalize hwd : h.word = wd at hm1
  unfold T.wf at hw
  obtain ⟨hw1, hw2⟩ := hw
  have hl3 : vs9.length ≤ 1000 := by rw [hm4.length]; exact Nat.le_trans (wfh3_len hw1) (by decide)
  rintro p loose mean mg mb dp un gd ⟨⟨_, nm, ig, ic, mo⟩, lo, gl, ce, qu, fu, co, _, bu⟩ outer A₀ base h₀ L m s Q E rfl rfl B F X N T hd1 hu1 hret
  refine wpAny_call ?_
  k_dflt k_enter
  refine let_env ?_
  intro env9
  k_steps
  refine Stop.into ?_
  refine wr_cut h ms ls (by k_asm) (by k_asm) (a := a) (b := b) (vs := vs) (us := us) (n := n) (n2 := n2) (by tbn_lt) (by tbn_lt) ?_ ?_
  · have mk9 := Mk2.mk
    have mk8 := Mk3.mk
    cases h with
    | s w9 k =>
      obtain rfl : w9 = wd := hwd
      obtain ⟨hwl, hwf⟩ := w_ne' hw1
      obtain ⟨t9, rfl⟩ := hm2
      have hk3 : in3 k := hw1.1
      k_steps
      · exact WrJ.mk (tl := []) (fr_what (by k_asm)) (by k_asm) (by k_mem) (by k_mem) (by tb_start) (by rw [← ms_loc (by with_reducible assumption)]; with_reducible assumption) (by rw [← ms_loc (by with_reducible assumption)]; with_reducible assumption) hj hl (fun _ h => (nomatch h)) (wh_loc (by with_reducible assumption)) (fun _ h => (nomatch h)) (fun _ h => (nomatch h)) (fun _ h => (nomatch h))
      · exact WrJ.mk (tl := []) (fr_what (by k_asm)) (by k_asm) (by k_mem) (by k_mem) (by tb_start) (by rw [← ms_no (by with_reducible assumption)]; exact hi) (by rw [← ms_no (by with_reducible assumption)]; exact hm) hj hl (fun _ h => (nomatch h)) (wh_nil (by with_reducible assumption) (by with_reducible assumption)) (fun _ h => (nomatch h)) (fun _ h => (nomatch h)) (fun _ h => (nomatch h))
      · exact WrJ.mk (tl := []) (fr_what (fr_asis (by k_asm) rfl)) (by k_asm) (by k_mem) (by k_mem) (by tb_start) (by rw [← ms_no (by with_reducible assumption)]; exact hi) (by rw [← ms_no (by with_reducible assumption)]; exact hm) hj hl (fun _ h => (nomatch h)) (wh_int (by with_reducible assumption) (by with_reducible assumption)) (fun _ h => (nomatch h)) (fun _ h => (nomatch h)) (fun _ h => (nomatch h))
    | lam l ps r =>
      obtain rfl : Str.ofString "lambda" = wd := hwd
      obtain ⟨q9, u9, us9, t2, t3, n3, n4, rfl, hq1, hq2, hq3⟩ := hm2
      have hl5 : in3 l := hw1.1
      have hp3 : us9.length ≤ 3 := by rw [hq3.length]; exact hw1.2.2.1
      have hz9 : us9.length + (if 0 ≤ r then [Value.int r t3] else []).length ≤ 1000 := by have := if_len (P := 0 ≤ r) (v := Value.int r t3); omega
      have hz8 : (us9 ++ if 0 ≤ r then [Value.int r t3] else []).length ≤ 1000 := by rw [List.length_append]; exact hz9
      k_steps
      refine Stop.into ?_
      refine tup_cut (if 0 ≤ r then [.int r t3] else []) (by k_asm) (by k_asm) ?_ ?_
      · have mk7 := Mk4.mk
        k_steps
        · exact TupAt.mk (if_pos (by with_reducible assumption)).symm (by k_asm) (by k_asm)
        · exact TupAt.mk (if_neg (by with_reducible assumption)).symm (by k_asm) (by k_asm)
      · intro D6 n6 g6 tk6 F6 N6
        k_steps
        refine comp_cnt (by rfl) (by k_asm) (by k_asm) (a := a) (vs := vs) (n := n) (by tbn_lt) (by k_mem) hz8 (ks := bnd ps r) (bnd_ints hq3) hi hm ?step ?fin
        case step =>
          intro i6 ys6 vs6 n6 k6 t6 hk6 hi6 hm6 I6 oI6 C6 oC6 D6 m6 h6 tk6 E6 a1 a2 F6 N6 a3
          have hk7 : in3 k6 := bnd_in3 hw1 k6 hk6
          k_steps
          exact CntEnd.mk (by k_asm) (by k_asm) (by k_mem) (by k_mem) (by k_mem) (by k_mem) (by tb_start) (by with_reducible assumption) (by with_reducible assumption)
        case fin =>
          intro g6 ys6 vs6 n6 hi6 hm6 hy6
          have hl6 : ys6.length ≤ 1000 := by rw [hy6.length, idxs_len]; exact bnd_len hw1.2.2.1
          k_steps
          exact WrJ.fil (listOf vs.toArray n) (listOf us.toArray n2) (by k_asm) (by k_asm) (by k_mem) (by k_mem) (by tb_start) hi6 hm6 (by assumption) (by assumption) (wh_lam hy6 (by kst_mem) (by kst_mem))
    | fix k =>
      obtain rfl : Str.ofString "fix" = wd := hwd
      obtain ⟨q9, t9, n3, rfl, hq1⟩ := hm2
      have hk3 : in3 k := hw1.1
      k_steps
      refine comp_cnt (by rfl) (by k_asm) (by k_asm) (a := a) (vs := vs) (n := n) (by tbn_lt) (by k_mem) (Nat.le_of_ble_eq_true rfl) (ks := [k]) (.cons k t9 .nil) hi hm ?step ?fin
      case step =>
        intro i6 ys6 vs6 n6 k6 t6 hk6 hi6 hm6 I6 oI6 C6 oC6 D6 m6 h6 tk6 E6 a1 a2 F6 N6 a3
        have hk7 : in3 k6 := by rw [List.mem_singleton.mp hk6]; exact hk3
        k_steps
        exact CntEnd.mk (by k_asm) (by k_asm) (by k_mem) (by k_mem) (by k_mem) (by k_mem) (by tb_start) (by with_reducible assumption) (by with_reducible assumption)
      case fin =>
        intro g6 ys6 vs6 n6 hi6 hm6 hy6
        have hl6 : ys6.length ≤ 1000 := by rw [hy6.length]; exact Nat.le_of_ble_eq_true rfl
        k_steps
        exact WrJ.fil (listOf vs.toArray n) (listOf us.toArray n2) (fr_what (by k_asm)) (by k_asm) (by k_mem) (by k_mem) (by tb_start) hi6 hm6 hj hl (wh_fix hy6 (by kst_mem))
  · rintro s' ⟨g9, tk9, xw9, o19, o29, vs8, n8, us8, n28, tl8, rfl, F9, N9, hi9, hm9, hj9, hl9, hd9, f1, f2, f3⟩
    k_steps
    refine comp_wr (by rfl) (by k_asm) (by k_asm) (a := a) (vs := vs8) (n := n8) (b := b) (us := us8) (n2 := n28) (by tbn_lt) (by tbn_lt) (by k_mem) hl3 hm4 hi9 hm9 hj9 hl9 ?nA ?nB ?step ?fin
    case nA => exact fun p hp => (List.mem_append.mp hp).elim (f2 p) ((by k_all : ∀ p ∈ _, p.1 ≠ a) p)
    case nB => exact fun p hp => (List.mem_append.mp hp).elim (f3 p) ((by k_all : ∀ p ∈ _, p.1 ≠ b) p)
    case step =>
      intro i6 ys6 vs6 n6 us6 n26 tl6 t6 v6 ht6 hv6 hi6 hm6 hj6 hl6 ha6 hb6 I6 oI6 C6 oC6 D6 m6 h6 tk6 E6 a1 a2 F6 N6 a3
      k_steps
      refine' WrEnd.mk ?F ?N ?h1 ?h2 ?h3 ?h4 ?h5 ?h6 ?h7 ?hi ?hm ?hj ?hl ?hd ?ha ?hb ?hf; (case hd => with_reducible assumption); (case F => k_asm); (case N => k_asm); (case h1 => k_mem); (case h2 => k_mem); (case h3 => k_mem); (case h4 => k_mem); (case h5 => k_mem); (case h6 => tb_start); (case h7 => tb_start); (case hi => with_reducible assumption); (case hm => with_reducible assumption); (case hj => with_reducible assumption); (case hl => with_reducible assumption); (case ha => with_reducible assumption); (case hb => with_reducible assumption); (case hf => with_reducible assumption)
    case fin =>
      intro g6 ys6 vs6 n6 us6 n26 tl6 hi6 hm6 hj6 hl6 hd6 hf6 hfa6 hfb6
      have hl7 : ys6.length ≤ 1000 := by rw [dats_len hd6, wrDs_len, ← hm4.length]; exact hl3
      subst hwd
      k_steps
      (rename Fr h₀ L _ m => F9); (rename News h₀ L _ _ => N9)
      exact wr_fin hret F9 N9 (by k_mem) (by k_mem) (by tb_start) (by rw [msT]; exact hi6) (by rw [msT]; exact hm6) (by rw [lsT]; exact hj6) (by rw [lsT]; exact hl6) (wr_dat (by kst_mem) (by kst_mem) hd9 hd6 (fil_sub2 (by tb_start) f1 f2 f3 (by tb_start)) (fil_sub2 (by tb_start) hf6 hfa6 hfb6 (by tb_start)))
end
section
set_option maxHeartbeats 6000000
theorem kw30 : True := by
  k_with_none
  k_with "ke_room" => (first | ((have hcL9ZZ := cLine_is; simp only [units_in1, units_deeper, Around.mark_units, units_caller]; (try dsimp only [arTop]); omega)) | fail)
  k_with "k_units" => (first | (ke_room) | fail)
  k_with "units_room" => (first | (ke_room) | fail)
  k_with "k_room" => (first | (((try simp only [depth_under_make, depth_under_kw, depth_in1, depth_deeper, depth_caller]); (try dsimp only [arTop]); (try simp only [recursionLimit]); omega)) | fail)
  k_with "ktr_room" => (first | (k_room) | fail)
  k_with "ktr_member" => (first | (first | exact allLt_ne (by with_reducible assumption) | exact allLt_ne1 (by with_reducible assumption) | exact allLt_ne2 (by with_reducible assumption) | exact off3_I (by with_reducible assumption) | exact off3_C (by with_reducible assumption) | exact off3_D (by with_reducible assumption) | exact off1_D (by with_reducible assumption)) | fail)
  k_with "k_ne" => (first | ((refine neN ?_; (try dsimp only); first | with_reducible assumption | exact Ne.symm (by with_reducible assumption) | exact Nat.ne_of_lt (by with_reducible assumption) | exact Nat.ne_of_gt (by with_reducible assumption) | omega)) | fail)
  k_with "kst_all" => (first | (first | with_reducible assumption | ktr_member | exact off_app (by first | with_reducible assumption | ktr_member) | exact off_app (off_app (by first | with_reducible assumption | ktr_member)) | exact off_app (off_app (off_app (by first | with_reducible assumption | ktr_member)))) | fail)
  k_with "kst_mem" => (first | ((refine' fil_mem ?aQ9 ?bQ9; (case aQ9 => k_mem); (case bQ9 => k_all))) | fail)
  k_with "kst_p" => (first | ((refine' fil_tree ?aQ10 ?bQ10 ?cQ10; (case aQ10 => with_reducible assumption); (case bQ10 => tb_start); (case cQ10 => exact fr_tl (by with_reducible assumption) (by with_reducible assumption) (by with_reducible assumption) (by with_reducible assumption) (by tb_start)))) | fail)
  k_with "k_all" => (first | (first | exact List.forall_mem_nil _ | (refine' List.forall_mem_cons.mpr ⟨?aQ11, ?bQ11⟩; (case aQ11 => k_ne); (case bQ11 => k_all)) | kst_all) | fail)
  k_with "lcg_off" => (first | (first | exact True.intro | (refine And.intro ⟨?aQ12, ?bQ12, ?cQ12⟩ ?dQ12; (case aQ12 => k_ne); (case bQ12 => k_ne); (case cQ12 => k_ne); (case dQ12 => lcg_off)) | with_reducible assumption | exact off3_of (by first | with_reducible assumption | ktr_member) (by first | with_reducible assumption | ktr_member) (by first | with_reducible assumption | ktr_member)) | fail)
  k_with "tb_rel" => (first | (first | with_reducible assumption | (refine List.mem_cons_of_mem _ ?_; tb_rel) | (refine List.mem_append.mpr (Or.inr ?_); tb_rel) | (refine List.mem_append.mpr (Or.inl ?_); tb_rel)) | fail)
  k_with "tb_start" => (first | ((intro p9ZZ hp9ZZ; tb_rel)) | fail)
  k_with "tbn_lt" => (first | (first | exact Ext.head | (refine' Ext.tail ?aQ15; (case aQ15 => tbn_lt))) | fail)
  k_with "tbn_below" => (first | (first | (refine' Split.cons ?aQ16; (case aQ16 => tbn_below)) | exact Split.base) | fail)
  k_with "tbn_conj" => (first | (first | exact True.intro | (refine' And.intro ?aQ17 ?bQ17; (case aQ17 => first | with_reducible assumption | ktr_member); (case bQ17 => tbn_conj))) | fail)
  k_with "my ite" => ((k_closed; first | (refine' iteBT ?p9Q18 ?_; (case p9Q18 => decide)) | (refine' iteBF ?p9Q18 ?_; (case p9Q18 => decide))))
  k_with "my CompEnd" => ((k_here; k_dflt (refine' comp_end ?FQ19 ?NQ19 ?e1Q19 ?e2Q19 ?e3Q19 ?offQ19 ?_; (case FQ19 => k_asm); (case NQ19 => k_asm); (case e1Q19 => tbn_lt); (case e2Q19 => tbn_lt); (case e3Q19 => tbn_lt); (case offQ19 => lcg_off))))
  k_with "my CompSrc" => ((k_here; k_dflt (refine LCg.CompSrc.range (by rfl) (by k_asm) (by k_asm) (by assumption) (by first | decide | rfl) (by first | rfl | decide) (by first | size_fits | exact Nat.le_of_ble_eq_true rfl) ?_; intro g'ZZ; lcg_lit)))
  k_with "my CompRest" => ((with_unfolding_all first | (refine LCg.CompRest.succ ?_; intro v'ZZ I'ZZ oI'ZZ C'ZZ oC'ZZ D'ZZ m'ZZ h'ZZ tk'ZZ E'ZZ hv'ZZ hC'ZZ hx'ZZ F'ZZ N'ZZ off'ZZ ne'ZZ; (first | lcg_open hv'ZZ | (obtain ⟨t9'ZZ, hv9'ZZ⟩ := hv'ZZ; subst hv9'ZZ)); (try dsimp only [LCg.Off3] at off'ZZ); (refine let_goal ?_); intro G9ZZ; (repeat (with_reducible obtain ⟨⟨_, _, _⟩, off'ZZ⟩ := off'ZZ)); (obtain ⟨_, _, _⟩ := ne'ZZ); k_unfold; clear G9ZZ) | refine LCg.CompRest.zero ?_))
  k_with "my FinE" => (((unfold LCg.FinE); intro D'ZZ h'ZZ tk'ZZ F'ZZ N'ZZ o1'ZZ; (try dsimp only [LCg.Off1] at o1'ZZ); (refine let_goal ?_); intro G9ZZ; (repeat (with_reducible obtain ⟨_, o1'ZZ⟩ := o1'ZZ)); k_unfold; clear G9ZZ; (try simp only [List.nil_append, List.cons_append] at N'ZZ); (try dsimp only)))
  trivial
noncomputable def StrPost (x : Str) (news : List (Addr × Obj)) (r : Value) (news' : List (Addr × Obj)) : Prop := news' = news ∧ ∃ t, r = .str x t
noncomputable def BoolPost (b : Bool) (news : List (Addr × Obj)) (r : Value) (news' : List (Addr × Obj)) : Prop := news' = news ∧ r = .bool b
noncomputable def IntPost (k : Int) (news : List (Addr × Obj)) (r : Value) (news' : List (Addr × Obj)) : Prop := news' = news ∧ ∃ t, r = .int k t
noncomputable def KwV (prog : Program) (w : World) (v : Value) (x : Str) : Prop := ∀ news, CallsTo prog w (hd.heap_1 w.params) 634 [v] news 6 300 (StrPost x news)
section
variable {prog : Program} {w : World} {p : Program} {loose : List Str} {mean : ExcName → Option Value} {mg mb : Str → Option Value} {dp un : Nat} {gd : Option (List Code)} {env : Env} {outer : List Env} {A₀ : Around} {base h₀ : Heap} {L f : Addr} {m : Str → Option Value} {s : Shared} {Q E : Value → Shared → Prop} {l : List (Addr × Obj)} {vs : List Value} {nd nu : Nat}
theorem str_use {x : Str} {v : Value} (S : KwV prog w v x)
    (hf : env.frame = some L) (hk : env.scope.kind = .function) (B : Below A₀ base outer h₀) (F : Fr h₀ L s.heap m) (X : (hd.heap_1 w.params).In h₀) (N : News h₀ L s.heap l) (T : Top p loose mean mg mb h₀) (hd1 : dp + 6 < 1000) (hu1 : un + 300 < 9900)
    (ret : ∀ t h' tk', Fr h₀ L h' m → News h₀ L h' l → Q (.str x t) { s with heap := h', toks := tk' }) : wpAny (model prog w) (arTop dp un gd env outer) (call (.ref 634) [v]) Q E s := by
  refine S l _ _ _ _ _ _ _ _ _ _ _ _ _ _ _ _ _ _ hf hk B F X N T hd1 hu1 ?_
  rintro r news' h' tk' F' N' ⟨rfl, t, rfl⟩
  exact ret t h' tk' F' N'
theorem int_use {k : Int} (S : CallsTo prog w (hd.heap_1 w.params) f vs l nd nu (IntPost k l))
    (hf : env.frame = some L) (hk : env.scope.kind = .function) (B : Below A₀ base outer h₀) (F : Fr h₀ L s.heap m) (X : (hd.heap_1 w.params).In h₀) (N : News h₀ L s.heap l) (T : Top p loose mean mg mb h₀) (hd1 : dp + nd < 1000) (hu1 : un + nu < 9900)
    (ret : ∀ t h' tk', Fr h₀ L h' m → News h₀ L h' l → Q (.int k t) { s with heap := h', toks := tk' }) : wpAny (model prog w) (arTop dp un gd env outer) (call (.ref f) vs) Q E s := by
  refine S _ _ _ _ _ _ _ _ _ _ _ _ _ _ _ _ _ _ hf hk B F X N T hd1 hu1 ?_
  rintro r news' h' tk' F' N' ⟨rfl, t, rfl⟩
  exact ret t h' tk' F' N'
theorem bool_use {b : Bool} (S : CallsTo prog w (hd.heap_1 w.params) f vs l nd nu (BoolPost b l))
    (hf : env.frame = some L) (hk : env.scope.kind = .function) (B : Below A₀ base outer h₀) (F : Fr h₀ L s.heap m) (X : (hd.heap_1 w.params).In h₀) (N : News h₀ L s.heap l) (T : Top p loose mean mg mb h₀) (hd1 : dp + nd < 1000) (hu1 : un + nu < 9900)
    (ret : ∀ h' tk', Fr h₀ L h' m → News h₀ L h' l → Q (.bool b) { s with heap := h', toks := tk' }) : wpAny (model prog w) (arTop dp un gd env outer) (call (.ref f) vs) Q E s := by
  refine S _ _ _ _ _ _ _ _ _ _ _ _ _ _ _ _ _ _ hf hk B F X N T hd1 hu1 ?_
  rintro r news' h' tk' F' N' ⟨rfl, rfl⟩
  exact ret h' tk' F' N'
end
theorem kw31 : True := by
  k_with "my exec Assign" => (k_fold)
  k_with "my exec If" => (k_fold)
  k_with "my exec Return" => (k_fold)
  k_with "my exec Expr" => (k_fold)
  k_with "my newTuple" => ((k_here; k_dflt (refine' kup_newTuple ?FQ136 ?NQ136 ?_ ?zQ136; (case FQ136 => k_asm); (case NQ136 => k_asm); (case zQ136 => kmk_size)); intro D'ZZ h'ZZ F'ZZ N'ZZ l1ZZ; clear l1ZZ; (try k_sweep)))
  k_with "my storeName" => ((k_here; k_dflt (refine' storeX_L ?FQ137 ?NQ137 ?_ ?aQ137 ?bQ137; (case FQ137 => k_asm); (case NQ137 => k_asm); (case aQ137 => rfl); (case bQ137 => rfl); k_whole; intro h'ZZ F'ZZ N'ZZ; (try k_sweep)); (refine let_m F'ZZ ?_); clear F'ZZ; intro m'ZZ F'ZZ))
  k_with "k_ne" => (first | ((refine neN ?_; (try dsimp only); first | with_reducible assumption | exact Ne.symm (by with_reducible assumption) | exact neC (by k_asm) (by k_mem) (by k_mem) tl_ne)) | fail)
  trivial
theorem kw_int (prog : Program) (w : World) (n : Int) (t : Tok) : KwV prog w (.int n t) "number" := by
  have hfill9 : PySem.Challenge.rw_on0297_01 = PySem.Challenge.rw_on0297_01 ∧ hd.heap_1 = hd.heap_1 := by
    k_fill
    exact ⟨rfl, rfl⟩
  clear hfill9
  intro news
  rintro p loose mean mg mb dp un gd ⟨⟨_, nm, ig, ic, mo⟩, lo, gl, ce, qu, fu, co, _, bu⟩ outer A₀ base h₀ L m s Q E rfl rfl B F X N T hd1 hu1 hret
  refine wpAny_call ?_
  k_dflt k_enter
  refine let_env ?_
  intro env9
  k_steps
  exact hret _ _ _ _ (by k_asm) (by k_asm) ⟨rfl, _, rfl⟩
theorem kw_bool (prog : Program) (w : World) (b : Bool) : KwV prog w (.bool b) "boolean" := by
  have hfill9 : PySem.Challenge.rw_on0297_01 = PySem.Challenge.rw_on0297_01 ∧ hd.heap_1 = hd.heap_1 := by
    k_fill
    exact ⟨rfl, rfl⟩
  clear hfill9
  intro news
  rintro p loose mean mg mb dp un gd ⟨⟨_, nm, ig, ic, mo⟩, lo, gl, ce, qu, fu, co, _, bu⟩ outer A₀ base h₀ L m s Q E rfl rfl B F X N T hd1 hu1 hret
  refine wpAny_call ?_
  k_dflt k_enter
  refine let_env ?_
  intro env9
  k_steps
  exact hret _ _ _ _ (by k_asm) (by k_asm) ⟨rfl, _, rfl⟩
theorem in_int (prog : Program) (w : World) (n : Int) (t : Tok) (news : List (Addr × Obj)) : CallsTo prog w (hd.heap_1 w.params) 711 [.int n t] news 4 150 (BoolPost false news) := by
  have hfill9 : PySem.Challenge.rw_on0297_01 = PySem.Challenge.rw_on0297_01 ∧ hd.heap_1 = hd.heap_1 := by
    k_fill
    exact ⟨rfl, rfl⟩
  clear hfill9
  rintro p loose mean mg mb dp un gd ⟨⟨_, nm, ig, ic, mo⟩, lo, gl, ce, qu, fu, co, _, bu⟩ outer A₀ base h₀ L m s Q E rfl rfl B F X N T hd1 hu1 hret
  refine wpAny_call ?_
  k_dflt k_enter
  refine let_env ?_
  intro env9
  k_steps
  exact hret _ _ _ _ (by k_asm) (by k_asm) ⟨rfl, rfl⟩
theorem top_int (prog : Program) (w : World) (n : Int) (t : Tok) (news : List (Addr × Obj)) : CallsTo prog w (hd.heap_1 w.params) 690 [.int n t] news 4 150 (IntPost n news) := by
  have hfill9 : PySem.Challenge.rw_on0297_01 = PySem.Challenge.rw_on0297_01 ∧ hd.heap_1 = hd.heap_1 := by
    k_fill
    exact ⟨rfl, rfl⟩
  clear hfill9
  rintro p loose mean mg mb dp un gd ⟨⟨_, nm, ig, ic, mo⟩, lo, gl, ce, qu, fu, co, _, bu⟩ outer A₀ base h₀ L m s Q E rfl rfl B F X N T hd1 hu1 hret
  refine wpAny_call ?_
  k_dflt k_enter
  refine let_env ?_
  intro env9
  k_steps
  exact hret _ _ _ _ (by k_asm) (by k_asm) ⟨rfl, _, rfl⟩
theorem bot_int (prog : Program) (w : World) (n : Int) (t : Tok) (news : List (Addr × Obj)) : CallsTo prog w (hd.heap_1 w.params) 697 [.int n t] news 4 150 (IntPost 1 news) := by
  have hfill9 : PySem.Challenge.rw_on0297_01 = PySem.Challenge.rw_on0297_01 ∧ hd.heap_1 = hd.heap_1 := by
    k_fill
    exact ⟨rfl, rfl⟩
  clear hfill9
  rintro p loose mean mg mb dp un gd ⟨⟨_, nm, ig, ic, mo⟩, lo, gl, ce, qu, fu, co, _, bu⟩ outer A₀ base h₀ L m s Q E rfl rfl B F X N T hd1 hu1 hret
  refine wpAny_call ?_
  k_dflt k_enter
  refine let_env ?_
  intro env9
  k_steps
  exact hret _ _ _ _ (by k_asm) (by k_asm) ⟨rfl, _, rfl⟩
theorem kw32 : True := by
  k_with "my call ref" => ((k_here; (with_reducible show wpAny _ _ (call (Value.ref 690) [Value.int _ _]) _ _ _); k_dflt (refine' int_use (top_int _ _ _ _ _) ?hfQ139 ?hkQ139 ?BQ139 ?FQ139 ?XQ139 ?NQ139 ?TQ139 ?hd1Q139 ?hu1Q139 ?_; (case hfQ139 => rfl); (case hkQ139 => first | rfl | assumption); (case BQ139 => k_asm); (case FQ139 => k_asm); (case XQ139 => k_in); (case NQ139 => k_asm); (case TQ139 => k_asm); (case hd1Q139 => k_room); (case hu1Q139 => ke_room)); intro t'ZZ h'ZZ tk'ZZ F'ZZ N'ZZ; (try k_sweep)))
  k_with "my call ref" => ((k_here; (with_reducible show wpAny _ _ (call (Value.ref 697) [Value.int _ _]) _ _ _); k_dflt (refine' int_use (bot_int _ _ _ _ _) ?hfQ140 ?hkQ140 ?BQ140 ?FQ140 ?XQ140 ?NQ140 ?TQ140 ?hd1Q140 ?hu1Q140 ?_; (case hfQ140 => rfl); (case hkQ140 => first | rfl | assumption); (case BQ140 => k_asm); (case FQ140 => k_asm); (case XQ140 => k_in); (case NQ140 => k_asm); (case TQ140 => k_asm); (case hd1Q140 => k_room); (case hu1Q140 => ke_room)); intro t'ZZ h'ZZ tk'ZZ F'ZZ N'ZZ; (try k_sweep)))
  k_with "my call ref" => ((k_here; (with_reducible show wpAny _ _ (call (Value.ref 711) [Value.int _ _]) _ _ _); k_dflt (refine' bool_use (in_int _ _ _ _ _) ?hfQ141 ?hkQ141 ?BQ141 ?FQ141 ?XQ141 ?NQ141 ?TQ141 ?hd1Q141 ?hu1Q141 ?_; (case hfQ141 => rfl); (case hkQ141 => first | rfl | assumption); (case BQ141 => k_asm); (case FQ141 => k_asm); (case XQ141 => k_in); (case NQ141 => k_asm); (case TQ141 => k_asm); (case hd1Q141 => k_room); (case hu1Q141 => ke_room)); intro h'ZZ tk'ZZ F'ZZ N'ZZ; (try k_sweep)))
  trivial
theorem sn_int (prog : Program) (w : World) (n n' : Int) (t t' : Tok) (news : List (Addr × Obj)) : CallsTo prog w (hd.heap_1 w.params) 718 [.int n t, .int n' t'] news 12 380 (BoolPost (decide (n = n')) news) := by
  have hfill9 : PySem.Challenge.rw_on0297_01 = PySem.Challenge.rw_on0297_01 ∧ hd.heap_1 = hd.heap_1 := by
    k_fill
    exact ⟨rfl, rfl⟩
  clear hfill9
  rintro p loose mean mg mb dp un gd ⟨⟨_, nm, ig, ic, mo⟩, lo, gl, ce, qu, fu, co, _, bu⟩ outer A₀ base h₀ L m s Q E rfl rfl B F X N T hd1 hu1 hret
  refine wpAny_call ?_
  k_dflt k_enter
  refine let_env ?_
  intro env9
  k_steps
  · (rename n = n' => e9)
    exact hret _ _ _ _ (by k_asm) (by k_asm) ⟨rfl, by rw [decide_eq_true e9]; rfl⟩
  · (rename ¬ n = n' => e9)
    exact hret _ _ _ _ (by k_asm) (by k_asm) ⟨rfl, by rw [decide_eq_false e9, beq_eq_false_iff_ne.mpr e9]⟩
theorem kw33 : True := by
  k_with "my call ref" => ((k_here; (with_reducible show wpAny _ _ (call (Value.ref 718) [Value.int _ _, Value.int _ _]) _ _ _); k_dflt (refine' bool_use (sn_int _ _ _ _ _ _ _) ?hfQ142 ?hkQ142 ?BQ142 ?FQ142 ?XQ142 ?NQ142 ?TQ142 ?hd1Q142 ?hu1Q142 ?_; (case hfQ142 => rfl); (case hkQ142 => first | rfl | assumption); (case BQ142 => k_asm); (case FQ142 => k_asm); (case XQ142 => k_in); (case NQ142 => k_asm); (case TQ142 => k_asm); (case hd1Q142 => k_room); (case hu1Q142 => ke_room)); intro h'ZZ tk'ZZ F'ZZ N'ZZ; (try k_sweep)))
  trivial
theorem am_int (prog : Program) (w : World) (n n' : Int) (t t' t'' : Tok) (news : List (Addr × Obj)) : CallsTo prog w (hd.heap_1 w.params) 725 [.int n t, .int n' t', .str "number" t''] news 16 520 (BoolPost (decide (n = n')) news) := by
  have hfill9 : PySem.Challenge.rw_on0297_01 = PySem.Challenge.rw_on0297_01 ∧ hd.heap_1 = hd.heap_1 := by
    k_fill
    exact ⟨rfl, rfl⟩
  clear hfill9
  rintro p loose mean mg mb dp un gd ⟨⟨_, nm, ig, ic, mo⟩, lo, gl, ce, qu, fu, co, _, bu⟩ outer A₀ base h₀ L m s Q E rfl rfl B F X N T hd1 hu1 hret
  refine wpAny_call ?_
  k_dflt k_enter
  refine let_env ?_
  intro env9
  k_steps
  exact hret _ _ _ _ (by k_asm) (by k_asm) ⟨rfl, rfl⟩
theorem am_bool (prog : Program) (w : World) (b b' : Bool) (t'' : Tok) (news : List (Addr × Obj)) : CallsTo prog w (hd.heap_1 w.params) 725 [.bool b, .bool b', .str "boolean" t''] news 16 520 (BoolPost (b == b') news) := by
  have hfill9 : PySem.Challenge.rw_on0297_01 = PySem.Challenge.rw_on0297_01 ∧ hd.heap_1 = hd.heap_1 := by
    k_fill
    exact ⟨rfl, rfl⟩
  clear hfill9
  rintro p loose mean mg mb dp un gd ⟨⟨_, nm, ig, ic, mo⟩, lo, gl, ce, qu, fu, co, _, bu⟩ outer A₀ base h₀ L m s Q E rfl rfl B F X N T hd1 hu1 hret
  refine wpAny_call ?_
  k_dflt k_enter
  refine let_env ?_
  intro env9
  k_steps
  exact hret _ _ _ _ (by k_asm) (by k_asm) ⟨rfl, rfl⟩
theorem at_same {prog : Program} {w : World} {v v' : Value} {x x' : Str} {b : Bool} (h : x = x' → ∀ t l, CallsTo prog w (hd.heap_1 w.params) 725 [v, v', .str x t] l 16 520 (BoolPost b l)) (e : (x != x') = false) (t : Tok) (l : List (Addr × Obj)) : CallsTo prog w (hd.heap_1 w.params) 725 [v, v', .str x t] l 16 520 (BoolPost b l) := h (by simpa using e) t l
theorem sd_no {x x' : Str} {b : Bool} (e : (x != x') = true) : false = (decide (x = x') && b) := by
  rw [decide_eq_false (by simpa using e), Bool.false_and]
theorem sd_yes {x x' : Str} {b : Bool} (e : (x != x') = false) : b = (decide (x = x') && b) := by
  rw [decide_eq_true (by simpa using e), Bool.true_and]
theorem kw34 : True := by
  k_with "my call ref" => ((k_here; (with_reducible show wpAny _ _ (call (Value.ref 634) [_]) _ _ _); k_dflt (refine' str_use ?SQ143 ?hfQ143 ?hkQ143 ?BQ143 ?FQ143 ?XQ143 ?NQ143 ?TQ143 ?hd1Q143 ?hu1Q143 ?_; (case SQ143 => with_reducible assumption); (case hfQ143 => rfl); (case hkQ143 => first | rfl | assumption); (case BQ143 => k_asm); (case FQ143 => k_asm); (case XQ143 => k_in); (case NQ143 => k_asm); (case TQ143 => k_asm); (case hd1Q143 => k_room); (case hu1Q143 => ke_room)); intro t'ZZ h'ZZ tk'ZZ F'ZZ N'ZZ; (try k_sweep)))
  k_with "my call ref" => ((k_here; (with_reducible show wpAny _ _ (call (Value.ref 725) [_, _, Value.str _ _]) _ _ _); k_dflt (refine' bool_use ?SQ144 ?hfQ144 ?hkQ144 ?BQ144 ?FQ144 ?XQ144 ?NQ144 ?TQ144 ?hd1Q144 ?hu1Q144 ?_; (case NQ144 => k_asm); (case SQ144 => exact at_same (by with_reducible assumption) (by with_reducible assumption) _ _); (case hfQ144 => rfl); (case hkQ144 => first | rfl | assumption); (case BQ144 => k_asm); (case FQ144 => k_asm); (case XQ144 => k_in); (case TQ144 => k_asm); (case hd1Q144 => k_room); (case hu1Q144 => ke_room)); intro h'ZZ tk'ZZ F'ZZ N'ZZ; (try k_sweep)))
  trivial
theorem sd_atom (prog : Program) (w : World) (v v' : Value) (x x' : Str) (b : Bool) (hv : KwV prog w v x) (hv' : KwV prog w v' x') (x1 : (x == "pair") = false) (x2 : (x == "vector") = false) (x3 : (x == "string") = false) (news : List (Addr × Obj))
    (ha : x = x' → ∀ t l, CallsTo prog w (hd.heap_1 w.params) 725 [v, v', .str x t] l 16 520 (BoolPost b l)) : CallsTo prog w (hd.heap_1 w.params) 732 [v, v'] news 30 900 (BoolPost (decide (x = x') && b) news) := by
  have hfill9 : PySem.Challenge.rw_on0297_01 = PySem.Challenge.rw_on0297_01 ∧ hd.heap_1 = hd.heap_1 := by
    k_fill
    exact ⟨rfl, rfl⟩
  clear hfill9
  rintro p loose mean mg mb dp un gd ⟨⟨_, nm, ig, ic, mo⟩, lo, gl, ce, qu, fu, co, _, bu⟩ outer A₀ base h₀ L m s Q E rfl rfl B F X N T hd1 hu1 hret
  refine wpAny_call ?_
  k_dflt k_enter
  refine let_env ?_
  intro env9
  k_steps
  · (rename Fr h₀ L _ m => F9); (rename News h₀ L _ _ => N9)
    exact hret _ _ _ _ F9 (news_sub (l' := news) N9 (by tb_start)) ⟨rfl, congrArg Value.bool (sd_no (by with_reducible assumption))⟩
  · (rename Fr h₀ L _ m => F9); (rename News h₀ L _ _ => N9)
    (rename b = true => e9)
    exact hret _ _ _ _ F9 (news_sub (l' := news) N9 (by tb_start)) ⟨rfl, congrArg Value.bool (e9.symm.trans (sd_yes (by with_reducible assumption)))⟩
  · (rename Fr h₀ L _ m => F9); (rename News h₀ L _ _ => N9)
    (rename b = false => e9)
    exact hret _ _ _ _ F9 (news_sub (l' := news) N9 (by tb_start)) ⟨rfl, congrArg Value.bool (e9.symm.trans (sd_yes (by with_reducible assumption)))⟩
theorem sd_spec (prog : Program) (w : World) (v v' : Value) (k k' : Int) (h : ConstV k v) (h' : ConstV k' v') (news : List (Addr × Obj)) : CallsTo prog w (hd.heap_1 w.params) 732 [v, v'] news 30 900 (BoolPost (decide (k = k')) news) := by
  have na : ∀ {P : Prop}, Str.ofString "number" = Str.ofString "boolean" → P := fun e => absurd e (by decide)
  have nb : ∀ {P : Prop}, Str.ofString "boolean" = Str.ofString "number" → P := fun e => absurd e (by decide)
  have ii : ∀ (n n' : Int) (t t' : Tok), CallsTo prog w (hd.heap_1 w.params) 732 [.int n t, .int n' t'] news 30 900 (BoolPost (decide (n = n')) news) := fun n n' t t' => sd_atom prog w _ _ "number" "number" (decide (n = n')) (kw_int _ _ _ _) (kw_int _ _ _ _) (by decide +kernel) (by decide +kernel) (by decide +kernel) news fun _ t l => am_int prog w n n' _ _ t l
  have ib : ∀ (n : Int) (t : Tok) (b : Bool), CallsTo prog w (hd.heap_1 w.params) 732 [.int n t, .bool b] news 30 900 (BoolPost false news) := fun n t b => sd_atom prog w _ _ "number" "boolean" false (kw_int _ _ _ _) (kw_bool _ _ _) (by decide +kernel) (by decide +kernel) (by decide +kernel) news na
  have bi : ∀ (n : Int) (t : Tok) (b : Bool), CallsTo prog w (hd.heap_1 w.params) 732 [.bool b, .int n t] news 30 900 (BoolPost false news) := fun n t b => sd_atom prog w _ _ "boolean" "number" false (kw_bool _ _ _) (kw_int _ _ _ _) (by decide +kernel) (by decide +kernel) (by decide +kernel) news nb
  rcases h with ⟨rfl, t, rfl⟩ | ⟨rfl, rfl⟩ | ⟨rfl, t, rfl⟩ <;> rcases h' with ⟨rfl, t', rfl⟩ | ⟨rfl, rfl⟩ | ⟨rfl, t', rfl⟩
  · exact ii 5 5 t t'
  · exact ib _ _ _
  · exact ii 5 1 t t'
  · exact bi _ _ _
  · exact sd_atom prog w _ _ "boolean" "boolean" true (kw_bool _ _ _) (kw_bool _ _ _) (by decide +kernel) (by decide +kernel) (by decide +kernel) news fun _ t l => am_bool prog w true true t l
  · exact bi _ _ _
  · exact ii 1 5 t t'
  · exact ib _ _ _
  · exact ii 1 1 t t'
end
section
set_option maxHeartbeats 6000000
theorem kw36 : True := by
  k_with_none
  k_with "ke_room" => (first | ((have hcL9ZZ := cLine_is; simp only [units_in1, units_deeper, Around.mark_units, units_caller]; (try dsimp only [arTop]); omega)) | fail)
  k_with "k_units" => (first | (ke_room) | fail)
  k_with "units_room" => (first | (ke_room) | fail)
  k_with "k_room" => (first | (((try simp only [depth_under_make, depth_under_kw, depth_in1, depth_deeper, depth_caller]); (try dsimp only [arTop]); (try simp only [recursionLimit]); omega)) | fail)
  k_with "ktr_room" => (first | (k_room) | fail)
  k_with "ktr_member" => (first | (first | exact allLt_ne (by with_reducible assumption) | exact allLt_ne1 (by with_reducible assumption) | exact allLt_ne2 (by with_reducible assumption) | exact off3_I (by with_reducible assumption) | exact off3_C (by with_reducible assumption) | exact off3_D (by with_reducible assumption) | exact off1_D (by with_reducible assumption)) | fail)
  k_with "k_ne" => (first | ((refine neN ?_; (try dsimp only); first | with_reducible assumption | exact Ne.symm (by with_reducible assumption) | exact Nat.ne_of_lt (by with_reducible assumption) | exact Nat.ne_of_gt (by with_reducible assumption) | omega)) | fail)
  k_with "kst_all" => (first | (first | with_reducible assumption | ktr_member | exact off_app (by first | with_reducible assumption | ktr_member) | exact off_app (off_app (by first | with_reducible assumption | ktr_member)) | exact off_app (off_app (off_app (by first | with_reducible assumption | ktr_member)))) | fail)
  k_with "kst_mem" => (first | ((refine' fil_mem ?aQ9 ?bQ9; (case aQ9 => k_mem); (case bQ9 => k_all))) | fail)
  k_with "kst_p" => (first | ((refine' fil_tree ?aQ10 ?bQ10 ?cQ10; (case aQ10 => with_reducible assumption); (case bQ10 => tb_start); (case cQ10 => exact fr_tl (by with_reducible assumption) (by with_reducible assumption) (by with_reducible assumption) (by with_reducible assumption) (by tb_start)))) | fail)
  k_with "k_all" => (first | (first | exact List.forall_mem_nil _ | (refine' List.forall_mem_cons.mpr ⟨?aQ11, ?bQ11⟩; (case aQ11 => k_ne); (case bQ11 => k_all)) | kst_all) | fail)
  k_with "lcg_off" => (first | (first | exact True.intro | (refine And.intro ⟨?aQ12, ?bQ12, ?cQ12⟩ ?dQ12; (case aQ12 => k_ne); (case bQ12 => k_ne); (case cQ12 => k_ne); (case dQ12 => lcg_off)) | with_reducible assumption | exact off3_of (by first | with_reducible assumption | ktr_member) (by first | with_reducible assumption | ktr_member) (by first | with_reducible assumption | ktr_member)) | fail)
  k_with "tb_rel" => (first | (first | with_reducible assumption | (refine List.mem_cons_of_mem _ ?_; tb_rel) | (refine List.mem_append.mpr (Or.inr ?_); tb_rel) | (refine List.mem_append.mpr (Or.inl ?_); tb_rel)) | fail)
  k_with "tb_start" => (first | ((intro p9ZZ hp9ZZ; tb_rel)) | fail)
  k_with "tbn_lt" => (first | (first | exact Ext.head | (refine' Ext.tail ?aQ15; (case aQ15 => tbn_lt))) | fail)
  k_with "tbn_below" => (first | (first | (refine' Split.cons ?aQ16; (case aQ16 => tbn_below)) | exact Split.base) | fail)
  k_with "tbn_conj" => (first | (first | exact True.intro | (refine' And.intro ?aQ17 ?bQ17; (case aQ17 => first | with_reducible assumption | ktr_member); (case bQ17 => tbn_conj))) | fail)
  k_with "my ite" => ((k_closed; first | (refine' iteBT ?p9Q18 ?_; (case p9Q18 => decide)) | (refine' iteBF ?p9Q18 ?_; (case p9Q18 => decide))))
  k_with "my CompEnd" => ((k_here; k_dflt (refine' comp_end ?FQ19 ?NQ19 ?e1Q19 ?e2Q19 ?e3Q19 ?offQ19 ?_; (case FQ19 => k_asm); (case NQ19 => k_asm); (case e1Q19 => tbn_lt); (case e2Q19 => tbn_lt); (case e3Q19 => tbn_lt); (case offQ19 => lcg_off))))
  k_with "my CompSrc" => ((k_here; k_dflt (refine LCg.CompSrc.range (by rfl) (by k_asm) (by k_asm) (by assumption) (by first | decide | rfl) (by first | rfl | decide) (by first | size_fits | exact Nat.le_of_ble_eq_true rfl) ?_; intro g'ZZ; lcg_lit)))
  k_with "my CompRest" => ((with_unfolding_all first | (refine LCg.CompRest.succ ?_; intro v'ZZ I'ZZ oI'ZZ C'ZZ oC'ZZ D'ZZ m'ZZ h'ZZ tk'ZZ E'ZZ hv'ZZ hC'ZZ hx'ZZ F'ZZ N'ZZ off'ZZ ne'ZZ; (first | lcg_open hv'ZZ | (obtain ⟨t9'ZZ, hv9'ZZ⟩ := hv'ZZ; subst hv9'ZZ)); (try dsimp only [LCg.Off3] at off'ZZ); (refine let_goal ?_); intro G9ZZ; (repeat (with_reducible obtain ⟨⟨_, _, _⟩, off'ZZ⟩ := off'ZZ)); (obtain ⟨_, _, _⟩ := ne'ZZ); k_unfold; clear G9ZZ) | refine LCg.CompRest.zero ?_))
  k_with "my FinE" => (((unfold LCg.FinE); intro D'ZZ h'ZZ tk'ZZ F'ZZ N'ZZ o1'ZZ; (try dsimp only [LCg.Off1] at o1'ZZ); (refine let_goal ?_); intro G9ZZ; (repeat (with_reducible obtain ⟨_, o1'ZZ⟩ := o1'ZZ)); k_unfold; clear G9ZZ; (try simp only [List.nil_append, List.cons_append] at N'ZZ); (try dsimp only)))
  trivial
/-- a Likeness object of the ledger: its dicts stand ahead -/
structure LikeAt (prog : Program) (w : World) (x d dT dB : Nat) (t1 t2 : Tok) (rest : List (Addr × Obj)) : Prop where
  inst : (x, instObj 763 d) ∈ rest
  dict : (d, dictOf [fe w.params "there" t1 (.ref dT), fe w.params "back" t2 (.ref dB)] 2) ∈ rest
  ne : dT ≠ dB
  offT : ∀ p ∈ rest, p.1 ≠ dT
  offB : ∀ p ∈ rest, p.1 ≠ dB
  sysT : (dT == sysModules) = false
  sysB : (dB == sysModules) = false
/-- a dict of ints -/
structure IntDict (prog : Program) (w : World) (o : Obj) (c : List (Int × Int)) : Prop where
  dict : ∃ kvs, o.IsDictOf (PySem.intKind prog w) kvs ∧ PyProof.V.FlatPairs PyData.int kvs (kdfD c)
  len : c.length ≤ 1000
noncomputable def goesB (cT cB : List (Int × Int)) (a b : Int) : Bool := if kdfHas cT a || kdfHas cB b then kdfLook cT a (-1) == b && kdfLook cB b (-1) == a else true
noncomputable def goesT (cT cB : List (Int × Int)) (a b : Int) : List (Int × Int) := if kdfHas cT a || kdfHas cB b then cT else kdfPut cT a b
noncomputable def goesK (cT cB : List (Int × Int)) (a b : Int) : List (Int × Int) := if kdfHas cT a || kdfHas cB b then cB else kdfPut cB b a
noncomputable def GoesPost (prog : Program) (w : World) (dT dB : Nat) (cT cB : List (Int × Int)) (a b : Int) (rest : List (Addr × Obj)) (r : Value) (news' : List (Addr × Obj)) : Prop :=
  ∃ oT oB, r = .bool (goesB cT cB a b) ∧ news' = (dT, oT) :: (dB, oB) :: rest ∧ IntDict prog w oT (goesT cT cB a b) ∧ IntDict prog w oB (goesK cT cB a b)
theorem goes_hit {cT cB : List (Int × Int)} {a b : Int} (h : (kdfHas cT a || kdfHas cB b) = true) : goesB cT cB a b = (kdfLook cT a (-1) == b && kdfLook cB b (-1) == a) ∧ goesT cT cB a b = cT ∧ goesK cT cB a b = cB := by
  unfold goesB goesT goesK
  rw [if_pos h, if_pos h, if_pos h]
  exact ⟨rfl, rfl, rfl⟩
theorem goes_miss {cT cB : List (Int × Int)} {a b : Int} (h1 : kdfHas cT a = false) (h2 : kdfHas cB b = false) : goesB cT cB a b = true ∧ goesT cT cB a b = kdfPut cT a b ∧ goesK cT cB a b = kdfPut cB b a := by
  unfold goesB goesT goesK
  rw [h1, h2]
  exact ⟨rfl, rfl, rfl⟩
theorem has_l {cT cB : List (Int × Int)} {a b : Int} (h : kdfHas cT a = true) : (kdfHas cT a || kdfHas cB b) = true := by rw [h]; rfl
theorem has_r {cT cB : List (Int × Int)} {a b : Int} (h : kdfHas cB b = true) : (kdfHas cT a || kdfHas cB b) = true := by rw [h, Bool.or_true]
theorem GoesPost.eqv {prog : Program} {w : World} {dT dB : Nat} {cT cB : List (Int × Int)} {a b : Int} {rest : List (Addr × Obj)} {oT oB : Obj} (h : (kdfHas cT a || kdfHas cB b) = true) (e : kdfLook cT a (-1) = b) (hT : IntDict prog w oT cT) (hB : IntDict prog w oB cB) :
    GoesPost prog w dT dB cT cB a b rest (.bool (kdfLook cB b (-1) == a)) ((dT, oT) :: (dB, oB) :: rest) := by
  obtain ⟨h1, h2, h3⟩ := goes_hit h
  refine ⟨oT, oB, ?_, rfl, by rw [h2]; exact hT, by rw [h3]; exact hB⟩
  rw [h1, e, beq_self_eq_true, Bool.true_and]
theorem GoesPost.neq {prog : Program} {w : World} {dT dB : Nat} {cT cB : List (Int × Int)} {a b : Int} {rest : List (Addr × Obj)} {oT oB : Obj} (h : (kdfHas cT a || kdfHas cB b) = true) (e : kdfLook cT a (-1) ≠ b) (hT : IntDict prog w oT cT) (hB : IntDict prog w oB cB) :
    GoesPost prog w dT dB cT cB a b rest (.bool (kdfLook cT a (-1) == b)) ((dT, oT) :: (dB, oB) :: rest) := by
  obtain ⟨h1, h2, h3⟩ := goes_hit h
  refine ⟨oT, oB, ?_, rfl, by rw [h2]; exact hT, by rw [h3]; exact hB⟩
  rw [h1, beq_eq_false_iff_ne.mpr e, Bool.false_and]
theorem GoesPost.put {prog : Program} {w : World} {dT dB : Nat} {cT cB : List (Int × Int)} {a b : Int} {rest : List (Addr × Obj)} {oT oB : Obj} {kT kB : List (Int × Value)} (h1 : kdfHas cT a = false) (h2 : kdfHas cB b = false) (d1 : oT.IsDictOf (PySem.intKind prog w) kT) (f1 : PyProof.V.FlatPairs PyData.int kT (kdfD (kdfPut cT a b))) (l1 : cT.length ≤ 900)
    (d2 : oB.IsDictOf (PySem.intKind prog w) kB) (f2 : PyProof.V.FlatPairs PyData.int kB (kdfD (kdfPut cB b a))) (l2 : cB.length ≤ 900) : GoesPost prog w dT dB cT cB a b rest (.bool true) ((dT, oT) :: (dB, oB) :: rest) := by
  obtain ⟨e1, e2, e3⟩ := goes_miss h1 h2
  have p1 := kdfPut_len cT a b
  have p2 := kdfPut_len cB b a
  refine ⟨oT, oB, by rw [e1], rfl, by rw [e2]; exact ⟨⟨kT, d1, f1⟩, by omega⟩, by rw [e3]; exact ⟨⟨kB, d2, f2⟩, by omega⟩⟩
theorem kw37 : True := by
  k_with "k_mem" => (first | (first | exact List.Mem.head _ | (refine' List.mem_cons_of_mem _ ?_; k_mem) | with_reducible assumption) | fail)
  k_with "my exec Assign" => (k_fold)
  k_with "my exec If" => (k_fold)
  k_with "my exec Return" => (k_fold)
  k_with "my exec Expr" => (k_fold)
  k_with "my newTuple" => ((k_here; k_dflt (refine' kup_newTuple ?FQ150 ?NQ150 ?_ ?zQ150; (case FQ150 => k_asm); (case NQ150 => k_asm); (case zQ150 => kmk_size)); intro D'ZZ h'ZZ F'ZZ N'ZZ l1ZZ; clear l1ZZ; (try k_sweep)))
  k_with "my storeName" => ((k_here; k_dflt (refine' storeX_L ?FQ151 ?NQ151 ?_ ?aQ151 ?bQ151; (case FQ151 => k_asm); (case NQ151 => k_asm); (case aQ151 => rfl); (case bQ151 => rfl); k_whole; intro h'ZZ F'ZZ N'ZZ; (try k_sweep)); (refine let_m F'ZZ ?_); clear F'ZZ; intro m'ZZ F'ZZ))
  k_with "k_ne" => (first | ((refine neN ?_; (try dsimp only); first | with_reducible assumption | exact Ne.symm (by with_reducible assumption) | exact neC (by k_asm) (by k_mem) (by k_mem) tl_ne)) | fail)
  trivial
theorem goes_spec (prog : Program) (w : World) (x d dT dB : Nat) (t1 t2 : Tok) (oT oB : Obj) (cT cB : List (Int × Int)) (a b : Int) (ta tb : Tok) (rest : List (Addr × Obj)) (hL : LikeAt prog w x d dT dB t1 t2 rest) (hT : IntDict prog w oT cT) (hB : IntDict prog w oB cB) (hcT : cT.length ≤ 900) (hcB : cB.length ≤ 900) :
    CallsTo prog w (hd.heap_1 w.params) 753 [.ref x, .int a ta, .int b tb] ((dT, oT) :: (dB, oB) :: rest) 6 400 (GoesPost prog w dT dB cT cB a b rest) := by
  have hfill9 : PySem.Challenge.rw_on0297_01 = PySem.Challenge.rw_on0297_01 ∧ hd.heap_1 = hd.heap_1 := by
    k_fill
    exact ⟨rfl, rfl⟩
  clear hfill9
  obtain ⟨h1, h2, hne, hoT, hoB, hsT, hsB⟩ := hL
  obtain ⟨⟨kT, hT1, hT2⟩, hT3⟩ := hT
  obtain ⟨⟨kB, hB1, hB2⟩, hB3⟩ := hB
  rintro p loose mean mg mb dp un gd ⟨⟨_, nm, ig, ic, mo⟩, lo, gl, ce, qu, fu, co, _, bu⟩ outer A₀ base h₀ L m s Q E rfl rfl B F X N T hd1 hu1 hret
  refine wpAny_call ?_
  k_dflt k_enter
  refine let_env ?_
  intro env9
  k_steps
  · (rename Fr h₀ L _ m => F9); (rename News h₀ L _ _ => N9)
    exact hret _ _ _ _ F9 N9 (GoesPost.eqv (has_l (by with_reducible assumption)) (by with_reducible assumption) ⟨⟨_, hT1, hT2⟩, hT3⟩ ⟨⟨_, hB1, hB2⟩, hB3⟩)
  · (rename Fr h₀ L _ m => F9); (rename News h₀ L _ _ => N9)
    exact hret _ _ _ _ F9 N9 (GoesPost.neq (has_l (by with_reducible assumption)) (by with_reducible assumption) ⟨⟨_, hT1, hT2⟩, hT3⟩ ⟨⟨_, hB1, hB2⟩, hB3⟩)
  · (rename Fr h₀ L _ m => F9); (rename News h₀ L _ _ => N9)
    exact hret _ _ _ _ F9 N9 (GoesPost.eqv (has_r (by with_reducible assumption)) (by with_reducible assumption) ⟨⟨_, hT1, hT2⟩, hT3⟩ ⟨⟨_, hB1, hB2⟩, hB3⟩)
  · (rename Fr h₀ L _ m => F9); (rename News h₀ L _ _ => N9)
    exact hret _ _ _ _ F9 N9 (GoesPost.neq (has_r (by with_reducible assumption)) (by with_reducible assumption) ⟨⟨_, hT1, hT2⟩, hT3⟩ ⟨⟨_, hB1, hB2⟩, hB3⟩)
  · (rename Fr h₀ L _ m => F9); (rename News h₀ L _ _ => N9)
    exact hret _ _ _ _ F9 N9 (GoesPost.put (by with_reducible assumption) (by with_reducible assumption) (by with_reducible assumption) (by with_reducible assumption) hcT (by with_reducible assumption) (by with_reducible assumption) hcB)
end
section
set_option maxHeartbeats 6000000
theorem kw39 : True := by
  k_with_none
  k_with "ke_room" => (first | ((have hcL9ZZ := cLine_is; simp only [units_in1, units_deeper, Around.mark_units, units_caller]; (try dsimp only [arTop]); omega)) | fail)
  k_with "k_units" => (first | (ke_room) | fail)
  k_with "units_room" => (first | (ke_room) | fail)
  k_with "k_room" => (first | (((try simp only [depth_under_make, depth_under_kw, depth_in1, depth_deeper, depth_caller]); (try dsimp only [arTop]); (try simp only [recursionLimit]); omega)) | fail)
  k_with "ktr_room" => (first | (k_room) | fail)
  k_with "ktr_member" => (first | (first | exact allLt_ne (by with_reducible assumption) | exact allLt_ne1 (by with_reducible assumption) | exact allLt_ne2 (by with_reducible assumption) | exact off3_I (by with_reducible assumption) | exact off3_C (by with_reducible assumption) | exact off3_D (by with_reducible assumption) | exact off1_D (by with_reducible assumption)) | fail)
  k_with "k_ne" => (first | ((refine neN ?_; (try dsimp only); first | with_reducible assumption | exact Ne.symm (by with_reducible assumption) | exact Nat.ne_of_lt (by with_reducible assumption) | exact Nat.ne_of_gt (by with_reducible assumption) | omega)) | fail)
  k_with "kst_all" => (first | (first | with_reducible assumption | ktr_member | exact off_app (by first | with_reducible assumption | ktr_member) | exact off_app (off_app (by first | with_reducible assumption | ktr_member)) | exact off_app (off_app (off_app (by first | with_reducible assumption | ktr_member)))) | fail)
  k_with "kst_mem" => (first | ((refine' fil_mem ?aQ9 ?bQ9; (case aQ9 => k_mem); (case bQ9 => k_all))) | fail)
  k_with "kst_p" => (first | ((refine' fil_tree ?aQ10 ?bQ10 ?cQ10; (case aQ10 => with_reducible assumption); (case bQ10 => tb_start); (case cQ10 => exact fr_tl (by with_reducible assumption) (by with_reducible assumption) (by with_reducible assumption) (by with_reducible assumption) (by tb_start)))) | fail)
  k_with "k_all" => (first | (first | exact List.forall_mem_nil _ | (refine' List.forall_mem_cons.mpr ⟨?aQ11, ?bQ11⟩; (case aQ11 => k_ne); (case bQ11 => k_all)) | kst_all) | fail)
  k_with "lcg_off" => (first | (first | exact True.intro | (refine And.intro ⟨?aQ12, ?bQ12, ?cQ12⟩ ?dQ12; (case aQ12 => k_ne); (case bQ12 => k_ne); (case cQ12 => k_ne); (case dQ12 => lcg_off)) | with_reducible assumption | exact off3_of (by first | with_reducible assumption | ktr_member) (by first | with_reducible assumption | ktr_member) (by first | with_reducible assumption | ktr_member)) | fail)
  k_with "tb_rel" => (first | (first | with_reducible assumption | (refine List.mem_cons_of_mem _ ?_; tb_rel) | (refine List.mem_append.mpr (Or.inr ?_); tb_rel) | (refine List.mem_append.mpr (Or.inl ?_); tb_rel)) | fail)
  k_with "tb_start" => (first | ((intro p9ZZ hp9ZZ; tb_rel)) | fail)
  k_with "tbn_lt" => (first | (first | exact Ext.head | (refine' Ext.tail ?aQ15; (case aQ15 => tbn_lt))) | fail)
  k_with "tbn_below" => (first | (first | (refine' Split.cons ?aQ16; (case aQ16 => tbn_below)) | exact Split.base) | fail)
  k_with "tbn_conj" => (first | (first | exact True.intro | (refine' And.intro ?aQ17 ?bQ17; (case aQ17 => first | with_reducible assumption | ktr_member); (case bQ17 => tbn_conj))) | fail)
  k_with "my ite" => ((k_closed; first | (refine' iteBT ?p9Q18 ?_; (case p9Q18 => decide)) | (refine' iteBF ?p9Q18 ?_; (case p9Q18 => decide))))
  k_with "my CompEnd" => ((k_here; k_dflt (refine' comp_end ?FQ19 ?NQ19 ?e1Q19 ?e2Q19 ?e3Q19 ?offQ19 ?_; (case FQ19 => k_asm); (case NQ19 => k_asm); (case e1Q19 => tbn_lt); (case e2Q19 => tbn_lt); (case e3Q19 => tbn_lt); (case offQ19 => lcg_off))))
  k_with "my CompSrc" => ((k_here; k_dflt (refine LCg.CompSrc.range (by rfl) (by k_asm) (by k_asm) (by assumption) (by first | decide | rfl) (by first | rfl | decide) (by first | size_fits | exact Nat.le_of_ble_eq_true rfl) ?_; intro g'ZZ; lcg_lit)))
  k_with "my CompRest" => ((with_unfolding_all first | (refine LCg.CompRest.succ ?_; intro v'ZZ I'ZZ oI'ZZ C'ZZ oC'ZZ D'ZZ m'ZZ h'ZZ tk'ZZ E'ZZ hv'ZZ hC'ZZ hx'ZZ F'ZZ N'ZZ off'ZZ ne'ZZ; (first | lcg_open hv'ZZ | (obtain ⟨t9'ZZ, hv9'ZZ⟩ := hv'ZZ; subst hv9'ZZ)); (try dsimp only [LCg.Off3] at off'ZZ); (refine let_goal ?_); intro G9ZZ; (repeat (with_reducible obtain ⟨⟨_, _, _⟩, off'ZZ⟩ := off'ZZ)); (obtain ⟨_, _, _⟩ := ne'ZZ); k_unfold; clear G9ZZ) | refine LCg.CompRest.zero ?_))
  k_with "my FinE" => (((unfold LCg.FinE); intro D'ZZ h'ZZ tk'ZZ F'ZZ N'ZZ o1'ZZ; (try dsimp only [LCg.Off1] at o1'ZZ); (refine let_goal ?_); intro G9ZZ; (repeat (with_reducible obtain ⟨_, o1'ZZ⟩ := o1'ZZ)); k_unfold; clear G9ZZ; (try simp only [List.nil_append, List.cons_append] at N'ZZ); (try dsimp only)))
  trivial
section
variable {prog : Program} {w : World} {p : Program} {loose : List Str} {mean : ExcName → Option Value} {mg mb : Str → Option Value} {dp un : Nat} {gd : Option (List Code)} {env : Env} {outer : List Env} {A₀ : Around} {base h₀ : Heap} {L : Addr} {m : Str → Option Value} {s : Shared} {Q E : Value → Shared → Prop} {l l1 rest : List (Addr × Obj)}
theorem goes_use {x d dT dB : Nat} {t1 t2 : Tok} {oT oB : Obj} {cT cB : List (Int × Int)} {a b : Int} {ta tb : Tok}
    (hf : env.frame = some L) (hk : env.scope.kind = .function) (B : Below A₀ base outer h₀) (F : Fr h₀ L s.heap m) (X : (hd.heap_1 w.params).In h₀) (N : News h₀ L s.heap l) (T : Top p loose mean mg mb h₀)
    (hT : IntDict prog w oT cT) (hB : IntDict prog w oB cB) (e1 : Ext (dT, oT) l l1) (e2 : Ext (dB, oB) l1 rest) (hL : LikeAt prog w x d dT dB t1 t2 rest) (hcT : cT.length ≤ 900) (hcB : cB.length ≤ 900)
    (hd1 : dp + 6 < 1000) (hu1 : un + 400 < 9900)
    (ret : ∀ oT oB h' tk', Fr h₀ L h' m → News h₀ L h' ((dT, oT) :: (dB, oB) :: rest) → IntDict prog w oT (goesT cT cB a b) → IntDict prog w oB (goesK cT cB a b) → Q (.bool (goesB cT cB a b)) { s with heap := h', toks := tk' }) :
    wpAny (model prog w) (arTop dp un gd env outer) (call (.ref 753) [.ref x, .int a ta, .int b tb]) Q E s := by
  have N1 : News h₀ L s.heap l1 := fun p hp => e1.news N p (.tail _ hp)
  refine goes_spec prog w x d dT dB t1 t2 oT oB cT cB a b ta tb rest hL hT hB hcT hcB _ _ _ _ _ _ _ _ _ _ _ _ _ _ _ _ _ _ hf hk B F X (news_cons N ((e1.mem _).mpr (.inl rfl)) (e2.news N1)) T hd1 hu1 ?_
  rintro r news' h' tk' F' N' ⟨oT', oB', rfl, rfl, h1, h2⟩
  exact ret oT' oB' h' tk' F' N' h1 h2
end
noncomputable def goB : List Int → List Int → List (Int × Int) → List (Int × Int) → Bool
  | a :: as, b :: bs, T, K => goesB T K a b && goB as bs (goesT T K a b) (goesK T K a b)
  | _, _, _, _ => true
noncomputable def goT : List Int → List Int → List (Int × Int) → List (Int × Int) → List (Int × Int) × List (Int × Int)
  | a :: as, b :: bs, T, K => goT as bs (goesT T K a b) (goesK T K a b)
  | _, _, T, K => (T, K)
theorem goB_snoc : ∀ {as bs : List Int} {a b : Int} {T K : List (Int × Int)}, as.length = bs.length → goB (as ++ [a]) (bs ++ [b]) T K = (goB as bs T K && goesB (goT as bs T K).1 (goT as bs T K).2 a b)
  | [], [], a, b, T, K, _ => by simp [goB, goT]
  | a' :: as, b' :: bs, a, b, T, K, h => by
    rw [List.cons_append, List.cons_append, goB, goB_snoc (Nat.succ.inj h), goB, goT, Bool.and_assoc]
  | [], _ :: _, _, _, _, _, h => by cases h
  | _ :: _, [], _, _, _, _, h => by cases h
theorem goT_snoc : ∀ {as bs : List Int} {a b : Int} {T K : List (Int × Int)}, as.length = bs.length → goT (as ++ [a]) (bs ++ [b]) T K = (goesT (goT as bs T K).1 (goT as bs T K).2 a b, goesK (goT as bs T K).1 (goT as bs T K).2 a b)
  | [], [], a, b, T, K, _ => by simp [goT]
  | a' :: as, b' :: bs, a, b, T, K, h => by
    rw [List.cons_append, List.cons_append, goT, goT_snoc (Nat.succ.inj h), goT]
  | [], _ :: _, _, _, _, _, h => by cases h
  | _ :: _, [], _, _, _, _, h => by cases h
theorem goesT_len {T K : List (Int × Int)} {a b : Int} : (goesT T K a b).length ≤ T.length + 1 := by
  unfold goesT; split
  · exact Nat.le_succ _
  · exact kdfPut_len _ _ _
theorem goesK_len {T K : List (Int × Int)} {a b : Int} : (goesK T K a b).length ≤ K.length + 1 := by
  unfold goesK; split
  · exact Nat.le_succ _
  · exact kdfPut_len _ _ _
theorem goT_len : ∀ {as bs : List Int} {T K : List (Int × Int)}, (goT as bs T K).1.length ≤ T.length + as.length ∧ (goT as bs T K).2.length ≤ K.length + as.length
  | [], _, T, K => by simp [goT]
  | _ :: _, [], T, K => by simp [goT]
  | a :: as, b :: bs, T, K => by
    rw [goT]
    have h := goT_len (as := as) (bs := bs) (T := goesT T K a b) (K := goesK T K a b)
    have h1 := goesT_len (T := T) (K := K) (a := a) (b := b)
    have h2 := goesK_len (T := T) (K := K) (a := a) (b := b)
    rw [List.length_cons]
    omega
theorem goB_false_take : ∀ {as bs : List Int} {i : Nat} {T K : List (Int × Int)}, goB (as.take i) (bs.take i) T K = false → goB as bs T K = false
  | [], bs, i, T, K, h => by simp [goB] at h
  | _ :: _, [], i, T, K, h => by cases i <;> simp [goB] at h
  | a :: as, b :: bs, 0, T, K, h => by simp [goB] at h
  | a :: as, b :: bs, i + 1, T, K, h => by
    rw [List.take_succ_cons, List.take_succ_cons, goB] at h
    rw [goB]
    rcases Bool.and_eq_false_iff.mp h with h | h
    · rw [h]; rfl
    · rw [goB_false_take h, Bool.and_false]
/-- what all_go leaves -/
noncomputable def AllPost (prog : Program) (w : World) (dT dB : Nat) (T K : List (Int × Int)) (as bs : List Int) (rest : List (Addr × Obj)) (r : Value) (news' : List (Addr × Obj)) : Prop :=
  ∃ oT oB, r = .bool (decide (as.length = bs.length) && goB as bs T K) ∧ news' = (dT, oT) :: (dB, oB) :: rest ∧ ((decide (as.length = bs.length) && goB as bs T K) = true → IntDict prog w oT (goT as bs T K).1 ∧ IntDict prog w oB (goT as bs T K).2)
section
variable {prog : Program} {w : World} {A : Around} {E : Value → Shared → Prop} {s : Shared} {h₀ : Heap} {L : Addr} {m : Str → Option Value} {news : List (Addr × Obj)}
theorem len_lst {t : Addr} {vs : List Value} {n : Nat} {k : Nat} {Q : Value → Shared → Prop} (N : News h₀ L s.heap news) (hm : (t, listOf vs.toArray n) ∈ news) (hk : vs.length = k) (hz : k ≤ 100000) (h : ∀ tk tk', Q (.int ((k : Nat) : Int) tk) { s with toks := tk' }) :
    wpAny (model prog w) A (call (.builtin "len") [.ref t]) Q E s := by
  have e : vs.toArray.size = k := by rw [List.size_toArray]; exact hk
  refine PyProof.Rows.len_list (News.isList N hm) (by rw [e]; omega) ?_
  rw [e]
  exact h _ _
end
theorem ints_get : ∀ {us : List Value} {as : List Int} {i : Nat}, IntsAre us as → i < as.length → ∃ a t, nthV us i = some (.int a t) ∧ as[i]? = some a
  | _, _, i, .nil, h => absurd h (Nat.not_lt_zero _)
  | _, _, 0, .cons n t r, _ => ⟨n, t, rfl, rfl⟩
  | _, _, i + 1, .cons n t r, h => by
    obtain ⟨a, t', e1, e2⟩ := ints_get r (i := i) (Nat.lt_of_succ_lt_succ h)
    exact ⟨a, t', e1, e2⟩
theorem LikeAt.app {prog : Program} {w : World} {x d dT dB : Nat} {t1 t2 : Tok} {rest own : List (Addr × Obj)} (h : LikeAt prog w x d dT dB t1 t2 rest) (o1 : ∀ p ∈ own, p.1 ≠ dT) (o2 : ∀ p ∈ own, p.1 ≠ dB) : LikeAt prog w x d dT dB t1 t2 (rest ++ own) :=
  ⟨List.mem_append_left _ h.inst, List.mem_append_left _ h.dict, h.ne, fun p hp => (List.mem_append.mp hp).elim (h.offT p) (o1 p), fun p hp => (List.mem_append.mp hp).elim (h.offB p) (o2 p), h.sysT, h.sysB⟩
theorem nthV_nat {us : List Value} {i : Nat} {v : Value} (h : nthV us i = some v) : nthV us.toArray.toList ((i : Nat) : Int).toNat = some v := by rw [Int.toNat_natCast]; exact h
theorem AllPost.no {prog : Program} {w : World} {dT dB : Nat} {T K : List (Int × Int)} {as bs : List Int} {rest : List (Addr × Obj)} {oT oB : Obj} (h : ((as.length : Nat) : Int) ≠ ((bs.length : Nat) : Int)) : AllPost prog w dT dB T K as bs rest (.bool false) ((dT, oT) :: (dB, oB) :: rest) := by
  have e : decide (as.length = bs.length) = false := decide_eq_false (by omega)
  exact ⟨oT, oB, by rw [e, Bool.false_and], rfl, fun q => by rw [e, Bool.false_and] at q; cases q⟩
theorem AllPost.bad {prog : Program} {w : World} {dT dB : Nat} {T K : List (Int × Int)} {as bs : List Int} {rest : List (Addr × Obj)} {oT oB : Obj} (h : goB as bs T K = false) : AllPost prog w dT dB T K as bs rest (.bool false) ((dT, oT) :: (dB, oB) :: rest) :=
  ⟨oT, oB, by rw [h, Bool.and_false], rfl, fun q => by rw [h, Bool.and_false] at q; cases q⟩
theorem AllPost.good {prog : Program} {w : World} {dT dB : Nat} {T K : List (Int × Int)} {as bs : List Int} {rest : List (Addr × Obj)} {oT oB : Obj} (e : as.length = bs.length) (h : goB as bs T K = true) (h1 : IntDict prog w oT (goT as bs T K).1) (h2 : IntDict prog w oB (goT as bs T K).2) : AllPost prog w dT dB T K as bs rest (.bool true) ((dT, oT) :: (dB, oB) :: rest) :=
  ⟨oT, oB, by rw [h, decide_eq_true e]; rfl, rfl, fun _ => ⟨h1, h2⟩⟩
/-- between the turns of all_go -/
noncomputable def GoInv (prog : Program) (w : World) (as bs : List Int) (T K : List (Int × Int)) (i : Nat) (c : Obj × Obj) : Prop :=
  goB (as.take i) (bs.take i) T K = true ∧ IntDict prog w c.1 (goT (as.take i) (bs.take i) T K).1 ∧ IntDict prog w c.2 (goT (as.take i) (bs.take i) T K).2
theorem GoInv.next {prog : Program} {w : World} {as bs : List Int} {T K : List (Int × Int)} {i : Nat} {c : Obj × Obj} {a b : Int} {oT oB : Obj} (h : GoInv prog w as bs T K i c) (ea : as[i]? = some a) (eb : bs[i]? = some b) (e : as.length = bs.length)
    (hb : goesB (goT (as.take i) (bs.take i) T K).1 (goT (as.take i) (bs.take i) T K).2 a b = true) (h1 : IntDict prog w oT (goesT (goT (as.take i) (bs.take i) T K).1 (goT (as.take i) (bs.take i) T K).2 a b)) (h2 : IntDict prog w oB (goesK (goT (as.take i) (bs.take i) T K).1 (goT (as.take i) (bs.take i) T K).2 a b)) :
    GoInv prog w as bs T K (i + 1) (oT, oB) := by
  have el : (as.take i).length = (bs.take i).length := by rw [List.length_take, List.length_take, e]
  unfold GoInv
  rw [take_snoc ea, take_snoc eb, goB_snoc el, goT_snoc el, h.1, hb]
  exact ⟨rfl, h1, h2⟩
theorem GoInv.stop {prog : Program} {w : World} {as bs : List Int} {T K : List (Int × Int)} {i : Nat} {c : Obj × Obj} {a b : Int} (h : GoInv prog w as bs T K i c) (ea : as[i]? = some a) (eb : bs[i]? = some b) (e : as.length = bs.length)
    (hb : goesB (goT (as.take i) (bs.take i) T K).1 (goT (as.take i) (bs.take i) T K).2 a b = false) : goB as bs T K = false := by
  have el : (as.take i).length = (bs.take i).length := by rw [List.length_take, List.length_take, e]
  refine goB_false_take (i := i + 1) ?_
  rw [take_snoc ea, take_snoc eb, goB_snoc el, hb, Bool.and_false]
theorem ix_small {i n : Nat} (h : i < n) (k : n ≤ 100000) : ((i : Nat) : Int) < 2 ^ 63 := by omega
theorem sub_app2 {x y : Addr × Obj} {rest own : List (Addr × Obj)} : ∀ p ∈ x :: y :: rest, p ∈ x :: y :: (rest ++ own) := fun p hp => by
  rcases List.mem_cons.mp hp with rfl | hp
  · exact .head _
  · rcases List.mem_cons.mp hp with rfl | hp
    · exact .tail _ (.head _)
    · exact .tail _ (.tail _ (List.mem_append_left _ hp))
theorem kw40 : True := by
  k_with "k_mem" => (first | (first | exact List.Mem.head _ | (refine' List.mem_cons_of_mem _ ?_; k_mem) | with_reducible assumption) | fail)
  k_with "my exec Assign" => (k_fold)
  k_with "my exec If" => (k_fold)
  k_with "my exec Return" => (k_fold)
  k_with "my exec Expr" => (k_fold)
  k_with "my newTuple" => ((k_here; k_dflt (refine' kup_newTuple ?FQ158 ?NQ158 ?_ ?zQ158; (case FQ158 => k_asm); (case NQ158 => k_asm); (case zQ158 => kmk_size)); intro D'ZZ h'ZZ F'ZZ N'ZZ l1ZZ; clear l1ZZ; (try k_sweep)))
  k_with "my storeName" => ((k_here; k_dflt (refine' storeX_L ?FQ159 ?NQ159 ?_ ?aQ159 ?bQ159; (case FQ159 => k_asm); (case NQ159 => k_asm); (case aQ159 => rfl); (case bQ159 => rfl); k_whole; intro h'ZZ F'ZZ N'ZZ; (try k_sweep)); (refine let_m F'ZZ ?_); clear F'ZZ; intro m'ZZ F'ZZ))
  k_with "k_ne" => (first | ((refine neN ?_; (try dsimp only); first | with_reducible assumption | exact Ne.symm (by with_reducible assumption) | exact neC (by k_asm) (by k_mem) (by k_mem) tl_ne)) | fail)
  k_with "my call builtin:len" => ((k_here; (with_reducible show wpAny _ _ (call (Value.builtin "len") [Value.ref _]) _ _ _); k_dflt (refine' len_lst ?NQ161 ?aQ161 ?kQ161 ?zQ161 ?_; (case NQ161 => k_asm); (case aQ161 => k_mem); (case kQ161 => with_reducible assumption); (case zQ161 => with_reducible assumption)); intro tk'ZZ tk''ZZ))
  k_with "my pyIter ref" => ((refine Stop.out ?_))
  k_with "my subscriptTail Name Name ref int" => ((k_here; (with_reducible show wpAny _ _ (subscriptTail _ _ (Value.ref _) (Value.int _ _)) _ _ _); k_dflt (refine' item_lst ?NQ163 ?mQ163 ?aQ163 ?bQ163 ?cQ163 ?_ ?dQ163; (case NQ163 => k_asm); (case mQ163 => k_mem); (case aQ163 => exact Int.natCast_nonneg _); (case bQ163 => exact ix_small (by with_reducible assumption) (by with_reducible assumption)); (case cQ163 => exact nthV_nat (by with_reducible assumption)); (case dQ163 => with_unfolding_all rfl); k_whole)))
  k_with "my call ref" => ((k_here; (with_reducible show wpAny _ _ (call (Value.ref 753) [Value.ref _, Value.int _ _, Value.int _ _]) _ _ _); k_dflt (refine' goes_use ?hfQ164 ?hkQ164 ?BQ164 ?FQ164 ?XQ164 ?NQ164 ?TQ164 ?hTQ164 ?hBQ164 ?e1Q164 ?e2Q164 ?hLQ164 ?hcTQ164 ?hcBQ164 ?hd1Q164 ?hu1Q164 ?_; (case hLQ164 => with_reducible assumption); (case hfQ164 => rfl); (case hkQ164 => first | rfl | assumption); (case BQ164 => k_asm); (case FQ164 => k_asm); (case XQ164 => k_in); (case NQ164 => k_asm); (case TQ164 => k_asm); (case e1Q164 => tbn_lt); (case e2Q164 => tbn_lt); (case hTQ164 => with_reducible assumption); (case hBQ164 => with_reducible assumption); (case hcTQ164 => with_reducible assumption); (case hcBQ164 => with_reducible assumption); (case hd1Q164 => k_room); (case hu1Q164 => ke_room)); intro oT'ZZ oB'ZZ h'ZZ tk'ZZ F'ZZ N'ZZ hT'ZZ hB'ZZ; (try k_sweep)))
  trivial
theorem all_spec (prog : Program) (w : World) (x d dT dB : Nat) (t1 t2 : Tok) (oT oB : Obj) (cT cB : List (Int × Int)) (l1 l2 n1 n2 : Nat) (us vs : List Value) (as bs : List Int) (rest : List (Addr × Obj)) (hL : LikeAt prog w x d dT dB t1 t2 rest) (hT : IntDict prog w oT cT) (hB : IntDict prog w oB cB)
    (hcT : cT.length + as.length ≤ 900) (hcB : cB.length + as.length ≤ 900) (hm1 : (l1, listOf us.toArray n1) ∈ rest) (hm2 : (l2, listOf vs.toArray n2) ∈ rest) (hi1 : IntsAre us as) (hi2 : IntsAre vs bs) (hb : bs.length ≤ 900) :
    CallsTo prog w (hd.heap_1 w.params) 760 [.ref x, .ref l1, .ref l2] ((dT, oT) :: (dB, oB) :: rest) 12 700 (AllPost prog w dT dB cT cB as bs rest) := by
  have hfill9 : PySem.Challenge.rw_on0297_01 = PySem.Challenge.rw_on0297_01 ∧ hd.heap_1 = hd.heap_1 := by
    k_fill
    exact ⟨rfl, rfl⟩
  clear hfill9
  have hL' := hL
  have e1 := hi1.length
  have e2 := hi2.length
  have z1 : as.length ≤ 100000 := by omega
  have z2 : bs.length ≤ 100000 := by omega
  obtain ⟨h1, h2, hne, hoT, hoB, hsT, hsB⟩ := hL
  rintro p loose mean mg mb dp un gd ⟨⟨_, nm, ig, ic, mo⟩, lo, gl, ce, qu, fu, co, _, bu⟩ outer A₀ base h₀ L m s Q E rfl rfl B F X N T hd1 hu1 hret
  refine wpAny_call ?_
  k_dflt k_enter
  refine let_env ?_
  intro env9
  k_steps
  · (rename Fr h₀ L _ m => F9); (rename News h₀ L _ _ => N9)
    exact hret _ _ _ _ F9 N9 (AllPost.no (by with_reducible assumption))
  · refine Stop.into ?_
    rename (((List.length as : Nat) : Int) = ((List.length bs : Nat) : Int)) => el9
    have el : as.length = bs.length := by omega
    k_dflt (refine' for_up (σ := Obj × Obj) (n := as.length) (fun c => (dT, c.1) :: (dB, c.2) :: rest) (GoInv prog w as bs cT cB) (oT, oB) ?hh ?hr ?hz ?F ?N ?ha ?hp ?turn ?done)
    case hh => rfl
    case hr => assumption
    case hz => exact z1
    case F => assumption
    case N => assumption
    case ha => intro c; rfl
    case hp => exact ⟨rfl, hT, hB⟩
    case turn =>
      rintro ⟨c1, c2⟩ i6 t6 h6 tk6 own6 hi6 hI6 ho6 F6 N6
      obtain ⟨a6, ta6, ea6, ea7⟩ := ints_get hi1 hi6
      obtain ⟨b6, tb6, eb6, eb7⟩ := ints_get hi2 (by omega : i6 < bs.length)
      obtain ⟨_, hI7, hI8⟩ := id hI6
      have gl := goT_len (as := as.take i6) (bs := bs.take i6) (T := cT) (K := cB)
      have gt : (as.take i6).length ≤ as.length := by rw [List.length_take]; exact Nat.min_le_right _ _
      have g1 : (goT (as.take i6) (bs.take i6) cT cB).1.length ≤ 900 := by omega
      have g2 : (goT (as.take i6) (bs.take i6) cT cB).2.length ≤ 900 := by omega
      have o1 : ∀ p ∈ own6, p.1 ≠ dT := fun p hp => ho6 p hp _ (.head _)
      have o2 : ∀ p ∈ own6, p.1 ≠ dB := fun p hp => ho6 p hp _ (.tail _ (.head _))
      have hL6 := hL'.app o1 o2
      replace N6 : News _ _ h6 ((dT, c1) :: (dB, c2) :: (rest ++ own6)) := N6
      k_steps
      · refine' ForEnd.mk (c := (_, _)) ?F ?N ?h1 ?h2 ?hp
        case hp => exact GoInv.next hI6 ea7 eb7 el (by with_reducible assumption) (by with_reducible assumption) (by with_reducible assumption)
        case F => k_asm
        case N => k_asm
        case h1 => exact sub_app2
        case h2 => tb_start
      · (rename Fr h₀ L _ m => F9); (rename News h₀ L _ _ => N9)
        exact hret _ _ _ _ F9 (news_sub N9 sub_app2) (AllPost.bad (hI6.stop ea7 eb7 el (by with_reducible assumption)))
    case done =>
      rintro ⟨c1, c2⟩ u6 h6 tk6 hI6 F6 N6
      unfold GoInv at hI6
      rw [List.take_length, el, List.take_length] at hI6
      obtain ⟨hI7, hI8, hI9⟩ := hI6
      k_steps
      (rename Fr h₀ L _ m => F9); (rename News h₀ L _ _ => N9)
      exact hret _ _ _ _ F9 N9 (AllPost.good el hI7 hI8 hI9)
end
section
set_option maxHeartbeats 6000000
theorem kw42 : True := by
  k_with_none
  k_with "ke_room" => (first | ((have hcL9ZZ := cLine_is; simp only [units_in1, units_deeper, Around.mark_units, units_caller]; (try dsimp only [arTop]); omega)) | fail)
  k_with "k_units" => (first | (ke_room) | fail)
  k_with "units_room" => (first | (ke_room) | fail)
  k_with "k_room" => (first | (((try simp only [depth_under_make, depth_under_kw, depth_in1, depth_deeper, depth_caller]); (try dsimp only [arTop]); (try simp only [recursionLimit]); omega)) | fail)
  k_with "ktr_room" => (first | (k_room) | fail)
  k_with "ktr_member" => (first | (first | exact allLt_ne (by with_reducible assumption) | exact allLt_ne1 (by with_reducible assumption) | exact allLt_ne2 (by with_reducible assumption) | exact off3_I (by with_reducible assumption) | exact off3_C (by with_reducible assumption) | exact off3_D (by with_reducible assumption) | exact off1_D (by with_reducible assumption)) | fail)
  k_with "k_ne" => (first | ((refine neN ?_; (try dsimp only); first | with_reducible assumption | exact Ne.symm (by with_reducible assumption) | exact Nat.ne_of_lt (by with_reducible assumption) | exact Nat.ne_of_gt (by with_reducible assumption) | omega)) | fail)
  k_with "kst_all" => (first | (first | with_reducible assumption | ktr_member | exact off_app (by first | with_reducible assumption | ktr_member) | exact off_app (off_app (by first | with_reducible assumption | ktr_member)) | exact off_app (off_app (off_app (by first | with_reducible assumption | ktr_member)))) | fail)
  k_with "kst_mem" => (first | ((refine' fil_mem ?aQ9 ?bQ9; (case aQ9 => k_mem); (case bQ9 => k_all))) | fail)
  k_with "kst_p" => (first | ((refine' fil_tree ?aQ10 ?bQ10 ?cQ10; (case aQ10 => with_reducible assumption); (case bQ10 => tb_start); (case cQ10 => exact fr_tl (by with_reducible assumption) (by with_reducible assumption) (by with_reducible assumption) (by with_reducible assumption) (by tb_start)))) | fail)
  k_with "k_all" => (first | (first | exact List.forall_mem_nil _ | (refine' List.forall_mem_cons.mpr ⟨?aQ11, ?bQ11⟩; (case aQ11 => k_ne); (case bQ11 => k_all)) | kst_all) | fail)
  k_with "lcg_off" => (first | (first | exact True.intro | (refine And.intro ⟨?aQ12, ?bQ12, ?cQ12⟩ ?dQ12; (case aQ12 => k_ne); (case bQ12 => k_ne); (case cQ12 => k_ne); (case dQ12 => lcg_off)) | with_reducible assumption | exact off3_of (by first | with_reducible assumption | ktr_member) (by first | with_reducible assumption | ktr_member) (by first | with_reducible assumption | ktr_member)) | fail)
  k_with "tb_rel" => (first | (first | with_reducible assumption | (refine List.mem_cons_of_mem _ ?_; tb_rel) | (refine List.mem_append.mpr (Or.inr ?_); tb_rel) | (refine List.mem_append.mpr (Or.inl ?_); tb_rel)) | fail)
  k_with "tb_start" => (first | ((intro p9ZZ hp9ZZ; tb_rel)) | fail)
  k_with "tbn_lt" => (first | (first | exact Ext.head | (refine' Ext.tail ?aQ15; (case aQ15 => tbn_lt))) | fail)
  k_with "tbn_below" => (first | (first | (refine' Split.cons ?aQ16; (case aQ16 => tbn_below)) | exact Split.base) | fail)
  k_with "tbn_conj" => (first | (first | exact True.intro | (refine' And.intro ?aQ17 ?bQ17; (case aQ17 => first | with_reducible assumption | ktr_member); (case bQ17 => tbn_conj))) | fail)
  k_with "my ite" => ((k_closed; first | (refine' iteBT ?p9Q18 ?_; (case p9Q18 => decide)) | (refine' iteBF ?p9Q18 ?_; (case p9Q18 => decide))))
  k_with "my CompEnd" => ((k_here; k_dflt (refine' comp_end ?FQ19 ?NQ19 ?e1Q19 ?e2Q19 ?e3Q19 ?offQ19 ?_; (case FQ19 => k_asm); (case NQ19 => k_asm); (case e1Q19 => tbn_lt); (case e2Q19 => tbn_lt); (case e3Q19 => tbn_lt); (case offQ19 => lcg_off))))
  k_with "my CompSrc" => ((k_here; k_dflt (refine LCg.CompSrc.range (by rfl) (by k_asm) (by k_asm) (by assumption) (by first | decide | rfl) (by first | rfl | decide) (by first | size_fits | exact Nat.le_of_ble_eq_true rfl) ?_; intro g'ZZ; lcg_lit)))
  k_with "my CompRest" => ((with_unfolding_all first | (refine LCg.CompRest.succ ?_; intro v'ZZ I'ZZ oI'ZZ C'ZZ oC'ZZ D'ZZ m'ZZ h'ZZ tk'ZZ E'ZZ hv'ZZ hC'ZZ hx'ZZ F'ZZ N'ZZ off'ZZ ne'ZZ; (first | lcg_open hv'ZZ | (obtain ⟨t9'ZZ, hv9'ZZ⟩ := hv'ZZ; subst hv9'ZZ)); (try dsimp only [LCg.Off3] at off'ZZ); (refine let_goal ?_); intro G9ZZ; (repeat (with_reducible obtain ⟨⟨_, _, _⟩, off'ZZ⟩ := off'ZZ)); (obtain ⟨_, _, _⟩ := ne'ZZ); k_unfold; clear G9ZZ) | refine LCg.CompRest.zero ?_))
  k_with "my FinE" => (((unfold LCg.FinE); intro D'ZZ h'ZZ tk'ZZ F'ZZ N'ZZ o1'ZZ; (try dsimp only [LCg.Off1] at o1'ZZ); (refine let_goal ?_); intro G9ZZ; (repeat (with_reducible obtain ⟨_, o1'ZZ⟩ := o1'ZZ)); k_unfold; clear G9ZZ; (try simp only [List.nil_append, List.cons_append] at N'ZZ); (try dsimp only)))
  trivial
noncomputable def KH.kind : KH → Int
  | .const _ => 0
  | .loc _ => 1
  | .glob _ => 2
  | .setl _ => 3
  | .setg _ => 4
  | .defn _ => 5
  | .iff => 6
  | .lam .. => 7
  | .call => 8
  | .seq => 9
  | .prim _ => 10
  | .fix _ => 11
noncomputable def KH.partsFn : KH → Nat
  | .const _ => 35
  | .loc _ => 35
  | .glob _ => 35
  | .setl _ => 127
  | .setg _ => 160
  | .defn _ => 193
  | .iff => 226
  | .lam .. => 259
  | .call => 306
  | .seq => 339
  | .prim _ => 372
  | .fix _ => 405
/-- no node's dict bears these names -/
theorem fld_none {P : Params} {news : List (Addr × Obj)} {h : KH} {o : Obj} {vs : List Value} (x : FldIn P news h o vs) : ∃ es n, o = dictOf es n ∧ getL "kind" es = some none ∧ getL "parts" es = some none := by
  cases h with
  | const k => obtain ⟨v, t1, _, rfl, _⟩ := x; exact ⟨_, _, rfl, rfl, rfl⟩
  | loc n => obtain ⟨t, t1, rfl, _⟩ := x; exact ⟨_, _, rfl, rfl, rfl⟩
  | glob n => obtain ⟨t, t1, rfl, _⟩ := x; exact ⟨_, _, rfl, rfl, rfl⟩
  | setl n => obtain ⟨c, t, t1, t2, rfl, _⟩ := x; exact ⟨_, _, rfl, rfl, rfl⟩
  | setg n => obtain ⟨c, t, t1, t2, rfl, _⟩ := x; exact ⟨_, _, rfl, rfl, rfl⟩
  | defn n => obtain ⟨c, t, t1, t2, rfl, _⟩ := x; exact ⟨_, _, rfl, rfl, rfl⟩
  | iff => obtain ⟨c1, c2, c3, t1, t2, t3, rfl, _⟩ := x; exact ⟨_, _, rfl, rfl, rfl⟩
  | lam l ps r => obtain ⟨c, q, us, n, t, u, t1, t2, t3, t4, rfl, _⟩ := x; exact ⟨_, _, rfl, rfl, rfl⟩
  | call => obtain ⟨c, q, cs, n, t1, t2, rfl, _⟩ := x; exact ⟨_, _, rfl, rfl, rfl⟩
  | seq => obtain ⟨q, n, t1, rfl, _⟩ := x; exact ⟨_, _, rfl, rfl, rfl⟩
  | prim k => obtain ⟨q, n, t, t1, t2, rfl, _⟩ := x; exact ⟨_, _, rfl, rfl, rfl⟩
  | fix k => obtain ⟨c, q, us, n, q2, cs, n2, t1, t2, t3, rfl, _⟩ := x; exact ⟨_, _, rfl, rfl, rfl⟩
section
variable {prog : Program} {w : World} {A : Around} {E : Value → Shared → Prop} {s : Shared} {h₀ : Heap} {L : Addr} {m : Str → Option Value} {news news' : List (Addr × Obj)}
theorem attr_kind {h : KH} {a d : Nat} {o : Obj} {vs : List Value} {expr : Bool} {Q : Value → Shared → Prop} (F : Fr h₀ L s.heap m) (X : (hd.heap_1 w.params).In h₀) (N : News h₀ L s.heap news) (hm : (a, instObj h.cls d) ∈ news) (ho : (d, o) ∈ news) (hf : FldIn w.params news' h o vs)
    (hq : ∀ t tk, Q (.int h.kind t) { s with toks := tk }) : wpAny (model prog w) A (getAttr (.ref a) "kind" expr) Q E s := by
  have hfill9 : PySem.Challenge.rw_on0297_01 = PySem.Challenge.rw_on0297_01 ∧ hd.heap_1 = hd.heap_1 := by
    k_fill
    exact ⟨rfl, rfl⟩
  clear hfill9
  obtain ⟨es, n, rfl, e1, e2⟩ := fld_none hf
  have I := InstAt.of_news N hm ho
  cases h <;> (dsimp only [KH.cls] at I; refine' get_cls ?k1 ?k2 ?k3 ?k4 ?k5 ?k6 ?k7 ?k8 ?k9 ?k10 ?_; (case k1 => exact F); (case k2 => exact X); (case k3 => exact I); (case k4 => k_is); (case k5 => k_is); (case k6 => k_is); (case k7 => k_is); (case k8 => k_handed); (case k9 => decide +kernel); (case k10 => exact e1); exact hq _ _)
theorem meth_parts {h : KH} {a d : Nat} {o : Obj} {vs : List Value} {pl : Sem Bool} {Q : Value × List Value → Shared → Prop} (F : Fr h₀ L s.heap m) (X : (hd.heap_1 w.params).In h₀) (N : News h₀ L s.heap news) (hm : (a, instObj h.cls d) ∈ news) (ho : (d, o) ∈ news) (hf : FldIn w.params news' h o vs)
    (hq : Q (.ref h.partsFn, [.ref a]) s) : wpAny (model prog w) A (getMethod (.ref a) "parts" pl) Q E s := by
  have hfill9 : PySem.Challenge.rw_on0297_01 = PySem.Challenge.rw_on0297_01 ∧ hd.heap_1 = hd.heap_1 := by
    k_fill
    exact ⟨rfl, rfl⟩
  clear hfill9
  obtain ⟨es, n, rfl, e1, e2⟩ := fld_none hf
  have I := InstAt.of_news N hm ho
  cases h <;> (dsimp only [KH.cls] at I; refine' method_inst ?k1 ?k2 ?k3 ?k4 ?k5 ?k6 ?k7 ?_; (case k1 => exact F); (case k2 => exact X); (case k3 => exact I); (case k4 => k_is); (case k5 => k_is); (case k6 => k_is); (case k7 => exact e2); exact hq)
end
end
section
set_option maxHeartbeats 6000000
theorem kw44 : True := by
  k_with_none
  k_with "ke_room" => (first | ((have hcL9ZZ := cLine_is; simp only [units_in1, units_deeper, Around.mark_units, units_caller]; (try dsimp only [arTop]); omega)) | fail)
  k_with "k_units" => (first | (ke_room) | fail)
  k_with "units_room" => (first | (ke_room) | fail)
  k_with "k_room" => (first | (((try simp only [depth_under_make, depth_under_kw, depth_in1, depth_deeper, depth_caller]); (try dsimp only [arTop]); (try simp only [recursionLimit]); omega)) | fail)
  k_with "ktr_room" => (first | (k_room) | fail)
  k_with "ktr_member" => (first | (first | exact allLt_ne (by with_reducible assumption) | exact allLt_ne1 (by with_reducible assumption) | exact allLt_ne2 (by with_reducible assumption) | exact off3_I (by with_reducible assumption) | exact off3_C (by with_reducible assumption) | exact off3_D (by with_reducible assumption) | exact off1_D (by with_reducible assumption)) | fail)
  k_with "k_ne" => (first | ((refine neN ?_; (try dsimp only); first | with_reducible assumption | exact Ne.symm (by with_reducible assumption) | exact Nat.ne_of_lt (by with_reducible assumption) | exact Nat.ne_of_gt (by with_reducible assumption) | omega)) | fail)
  k_with "kst_all" => (first | (first | with_reducible assumption | ktr_member | exact off_app (by first | with_reducible assumption | ktr_member) | exact off_app (off_app (by first | with_reducible assumption | ktr_member)) | exact off_app (off_app (off_app (by first | with_reducible assumption | ktr_member)))) | fail)
  k_with "kst_mem" => (first | ((refine' fil_mem ?aQ9 ?bQ9; (case aQ9 => k_mem); (case bQ9 => k_all))) | fail)
  k_with "kst_p" => (first | ((refine' fil_tree ?aQ10 ?bQ10 ?cQ10; (case aQ10 => with_reducible assumption); (case bQ10 => tb_start); (case cQ10 => exact fr_tl (by with_reducible assumption) (by with_reducible assumption) (by with_reducible assumption) (by with_reducible assumption) (by tb_start)))) | fail)
  k_with "k_all" => (first | (first | exact List.forall_mem_nil _ | (refine' List.forall_mem_cons.mpr ⟨?aQ11, ?bQ11⟩; (case aQ11 => k_ne); (case bQ11 => k_all)) | kst_all) | fail)
  k_with "lcg_off" => (first | (first | exact True.intro | (refine And.intro ⟨?aQ12, ?bQ12, ?cQ12⟩ ?dQ12; (case aQ12 => k_ne); (case bQ12 => k_ne); (case cQ12 => k_ne); (case dQ12 => lcg_off)) | with_reducible assumption | exact off3_of (by first | with_reducible assumption | ktr_member) (by first | with_reducible assumption | ktr_member) (by first | with_reducible assumption | ktr_member)) | fail)
  k_with "tb_rel" => (first | (first | with_reducible assumption | (refine List.mem_cons_of_mem _ ?_; tb_rel) | (refine List.mem_append.mpr (Or.inr ?_); tb_rel) | (refine List.mem_append.mpr (Or.inl ?_); tb_rel)) | fail)
  k_with "tb_start" => (first | ((intro p9ZZ hp9ZZ; tb_rel)) | fail)
  k_with "tbn_lt" => (first | (first | exact Ext.head | (refine' Ext.tail ?aQ15; (case aQ15 => tbn_lt))) | fail)
  k_with "tbn_below" => (first | (first | (refine' Split.cons ?aQ16; (case aQ16 => tbn_below)) | exact Split.base) | fail)
  k_with "tbn_conj" => (first | (first | exact True.intro | (refine' And.intro ?aQ17 ?bQ17; (case aQ17 => first | with_reducible assumption | ktr_member); (case bQ17 => tbn_conj))) | fail)
  k_with "my ite" => ((k_closed; first | (refine' iteBT ?p9Q18 ?_; (case p9Q18 => decide)) | (refine' iteBF ?p9Q18 ?_; (case p9Q18 => decide))))
  k_with "my CompEnd" => ((k_here; k_dflt (refine' comp_end ?FQ19 ?NQ19 ?e1Q19 ?e2Q19 ?e3Q19 ?offQ19 ?_; (case FQ19 => k_asm); (case NQ19 => k_asm); (case e1Q19 => tbn_lt); (case e2Q19 => tbn_lt); (case e3Q19 => tbn_lt); (case offQ19 => lcg_off))))
  k_with "my CompSrc" => ((k_here; k_dflt (refine LCg.CompSrc.range (by rfl) (by k_asm) (by k_asm) (by assumption) (by first | decide | rfl) (by first | rfl | decide) (by first | size_fits | exact Nat.le_of_ble_eq_true rfl) ?_; intro g'ZZ; lcg_lit)))
  k_with "my CompRest" => ((with_unfolding_all first | (refine LCg.CompRest.succ ?_; intro v'ZZ I'ZZ oI'ZZ C'ZZ oC'ZZ D'ZZ m'ZZ h'ZZ tk'ZZ E'ZZ hv'ZZ hC'ZZ hx'ZZ F'ZZ N'ZZ off'ZZ ne'ZZ; (first | lcg_open hv'ZZ | (obtain ⟨t9'ZZ, hv9'ZZ⟩ := hv'ZZ; subst hv9'ZZ)); (try dsimp only [LCg.Off3] at off'ZZ); (refine let_goal ?_); intro G9ZZ; (repeat (with_reducible obtain ⟨⟨_, _, _⟩, off'ZZ⟩ := off'ZZ)); (obtain ⟨_, _, _⟩ := ne'ZZ); k_unfold; clear G9ZZ) | refine LCg.CompRest.zero ?_))
  k_with "my FinE" => (((unfold LCg.FinE); intro D'ZZ h'ZZ tk'ZZ F'ZZ N'ZZ o1'ZZ; (try dsimp only [LCg.Off1] at o1'ZZ); (refine let_goal ?_); intro G9ZZ; (repeat (with_reducible obtain ⟨_, o1'ZZ⟩ := o1'ZZ)); k_unfold; clear G9ZZ; (try simp only [List.nil_append, List.cons_append] at N'ZZ); (try dsimp only)))
  trivial
/-- what parts() gives: a new list of the parts -/
noncomputable def ListPost (vs : List Value) (news : List (Addr × Obj)) (r : Value) (news' : List (Addr × Obj)) : Prop :=
  ∃ l n, r = .ref l ∧ news' = (l, listOf vs.toArray n) :: news ∧ (∀ p ∈ news, p.1 < l)
theorem len_toL {cs : List Value} (h : cs.length ≤ 1000) : cs.toArray.size ≤ sizeLine := by rw [List.size_toArray, PySem.sizeLine_eq]; omega
theorem cat_len {cs ds : List Value} (h : (cs ++ ds).length ≤ 1000) : cs.toArray.toList.length + ds.toArray.toList.length ≤ sizeLine := by
  rw [PySem.sizeLine_eq]
  have e1 : cs.toArray.toList.length = cs.length := rfl
  have e2 : ds.toArray.toList.length = ds.length := rfl
  rw [e1, e2]
  rw [List.length_append] at h; omega
theorem fresh_sub {D : Nat} {nw news : List (Addr × Obj)} (l1 : ∀ p ∈ nw, p.1 < D) (sub : ∀ p ∈ news, p ∈ nw) : ∀ p ∈ news, p.1 < D := fun p hp => l1 p (sub p hp)
theorem kw45 : True := by
  k_with "k_mem" => (first | (first | exact List.Mem.head _ | (refine' List.mem_cons_of_mem _ ?_; k_mem) | with_reducible assumption) | fail)
  k_with "my exec Assign" => (k_fold)
  k_with "my exec If" => (k_fold)
  k_with "my exec Return" => (k_fold)
  k_with "my exec Expr" => (k_fold)
  k_with "my newTuple" => ((k_here; k_dflt (refine' kup_newTuple ?FQ170 ?NQ170 ?_ ?zQ170; (case FQ170 => k_asm); (case NQ170 => k_asm); (case zQ170 => kmk_size)); intro D'ZZ h'ZZ F'ZZ N'ZZ l1ZZ; clear l1ZZ; (try k_sweep)))
  k_with "my storeName" => ((k_here; k_dflt (refine' storeX_L ?FQ171 ?NQ171 ?_ ?aQ171 ?bQ171; (case FQ171 => k_asm); (case NQ171 => k_asm); (case aQ171 => rfl); (case bQ171 => rfl); k_whole; intro h'ZZ F'ZZ N'ZZ; (try k_sweep)); (refine let_m F'ZZ ?_); clear F'ZZ; intro m'ZZ F'ZZ))
  k_with "k_ne" => (first | ((refine neN ?_; (try dsimp only); first | with_reducible assumption | exact Ne.symm (by with_reducible assumption) | exact neC (by k_asm) (by k_mem) (by k_mem) tl_ne)) | fail)
  k_with "my binaryOp Add ref ref" => ((k_here; (with_reducible show wpAny _ _ (binaryOp _ (Value.ref _) (Value.ref _)) _ _ _); k_dflt (refine' kmk_add_lit ?FQ173 ?NQ173 ?aQ173 ?bQ173 ?eQ173 ?_ ?zQ173; (case FQ173 => k_asm); (case NQ173 => k_asm); (case aQ173 => exact News.isList (by k_asm) (by k_mem)); (case bQ173 => exact News.isList (by k_asm) (by k_mem)); (case eQ173 => rfl); (case zQ173 => exact cat_len (by with_reducible assumption))); intro D'ZZ h'ZZ F'ZZ N'ZZ l1ZZ; (try k_sweep)))
  k_with "my call type:list" => ((k_here; (with_reducible show wpAny _ _ (call (Value.type _) [Value.ref _]) _ _ _); k_dflt (refine' list_copyK ?FQ174 ?NQ174 ?aQ174 ?_ ?zQ174; (case FQ174 => k_asm); (case NQ174 => k_asm); (case aQ174 => exact News.isList (by k_asm) (by k_mem)); (case zQ174 => exact len_toL (by with_reducible assumption)); k_whole); intro D'ZZ c'ZZ h'ZZ F'ZZ N'ZZ l1ZZ; (try k_sweep)))
  k_with "my newList" => ((k_here; k_dflt (refine' newList_K ?k1Q175 ?k2Q175 ?_; (case k1Q175 => k_asm); (case k2Q175 => k_asm); k_whole); intro l'ZZ h'ZZ F'ZZ N'ZZ l1ZZ; (try k_sweep)))
  trivial
theorem parts_none (prog : Program) (w : World) (a : Nat) (news : List (Addr × Obj)) : CallsTo prog w (hd.heap_1 w.params) 35 [.ref a] news 6 300 (ListPost [] news) := by
  have hfill9 : PySem.Challenge.rw_on0297_01 = PySem.Challenge.rw_on0297_01 ∧ hd.heap_1 = hd.heap_1 := by
    k_fill
    exact ⟨rfl, rfl⟩
  clear hfill9
  rintro p loose mean mg mb dp un gd ⟨⟨_, nm, ig, ic, mo⟩, lo, gl, ce, qu, fu, co, _, bu⟩ outer A₀ base h₀ L m s Q E rfl rfl B F X N T hd1 hu1 hret
  refine wpAny_call ?_
  k_dflt k_enter
  refine let_env ?_
  intro env9
  k_steps
  (rename Fr h₀ L _ m => F9); (rename News h₀ L _ _ => N9)
  exact hret _ _ _ _ F9 (news1 N9 (List.Mem.head _) (by tb_start)) ⟨_, _, rfl, rfl, fresh_sub (by with_reducible assumption) (by tb_start)⟩
theorem parts_setl (prog : Program) (w : World) (k : Int) (a d : Nat) (o : Obj) (vs : List Value) (news : List (Addr × Obj)) (hm : (a, instObj 137 d) ∈ news) (ho : (d, o) ∈ news) (hf : FldIn w.params news (.setl k) o vs) (hz : vs.length ≤ 1000) (hr : ∀ v ∈ vs, ∃ c : Nat, v = .ref c) : CallsTo prog w (hd.heap_1 w.params) 127 [.ref a] news 6 300 (ListPost vs news) := by
  have hfill9 : PySem.Challenge.rw_on0297_01 = PySem.Challenge.rw_on0297_01 ∧ hd.heap_1 = hd.heap_1 := by
    k_fill
    exact ⟨rfl, rfl⟩
  clear hfill9
  obtain ⟨c, t, t1, t2, rfl, rfl⟩ := hf
  obtain ⟨c', rfl⟩ := hr c (.head _)
  rintro p loose mean mg mb dp un gd ⟨⟨_, nm, ig, ic, mo⟩, lo, gl, ce, qu, fu, co, _, bu⟩ outer A₀ base h₀ L m s Q E rfl rfl B F X N T hd1 hu1 hret
  refine wpAny_call ?_
  k_dflt k_enter
  refine let_env ?_
  intro env9
  k_steps
  (rename Fr h₀ L _ m => F9); (rename News h₀ L _ _ => N9)
  exact hret _ _ _ _ F9 (news1 N9 (List.Mem.head _) (by tb_start)) ⟨_, _, rfl, rfl, fresh_sub (by with_reducible assumption) (by tb_start)⟩
theorem parts_setg (prog : Program) (w : World) (k : Int) (a d : Nat) (o : Obj) (vs : List Value) (news : List (Addr × Obj)) (hm : (a, instObj 170 d) ∈ news) (ho : (d, o) ∈ news) (hf : FldIn w.params news (.setg k) o vs) (hz : vs.length ≤ 1000) (hr : ∀ v ∈ vs, ∃ c : Nat, v = .ref c) : CallsTo prog w (hd.heap_1 w.params) 160 [.ref a] news 6 300 (ListPost vs news) := by
  have hfill9 : PySem.Challenge.rw_on0297_01 = PySem.Challenge.rw_on0297_01 ∧ hd.heap_1 = hd.heap_1 := by
    k_fill
    exact ⟨rfl, rfl⟩
  clear hfill9
  obtain ⟨c, t, t1, t2, rfl, rfl⟩ := hf
  obtain ⟨c', rfl⟩ := hr c (.head _)
  rintro p loose mean mg mb dp un gd ⟨⟨_, nm, ig, ic, mo⟩, lo, gl, ce, qu, fu, co, _, bu⟩ outer A₀ base h₀ L m s Q E rfl rfl B F X N T hd1 hu1 hret
  refine wpAny_call ?_
  k_dflt k_enter
  refine let_env ?_
  intro env9
  k_steps
  (rename Fr h₀ L _ m => F9); (rename News h₀ L _ _ => N9)
  exact hret _ _ _ _ F9 (news1 N9 (List.Mem.head _) (by tb_start)) ⟨_, _, rfl, rfl, fresh_sub (by with_reducible assumption) (by tb_start)⟩
theorem parts_defn (prog : Program) (w : World) (k : Int) (a d : Nat) (o : Obj) (vs : List Value) (news : List (Addr × Obj)) (hm : (a, instObj 203 d) ∈ news) (ho : (d, o) ∈ news) (hf : FldIn w.params news (.defn k) o vs) (hz : vs.length ≤ 1000) (hr : ∀ v ∈ vs, ∃ c : Nat, v = .ref c) : CallsTo prog w (hd.heap_1 w.params) 193 [.ref a] news 6 300 (ListPost vs news) := by
  have hfill9 : PySem.Challenge.rw_on0297_01 = PySem.Challenge.rw_on0297_01 ∧ hd.heap_1 = hd.heap_1 := by
    k_fill
    exact ⟨rfl, rfl⟩
  clear hfill9
  obtain ⟨c, t, t1, t2, rfl, rfl⟩ := hf
  obtain ⟨c', rfl⟩ := hr c (.head _)
  rintro p loose mean mg mb dp un gd ⟨⟨_, nm, ig, ic, mo⟩, lo, gl, ce, qu, fu, co, _, bu⟩ outer A₀ base h₀ L m s Q E rfl rfl B F X N T hd1 hu1 hret
  refine wpAny_call ?_
  k_dflt k_enter
  refine let_env ?_
  intro env9
  k_steps
  (rename Fr h₀ L _ m => F9); (rename News h₀ L _ _ => N9)
  exact hret _ _ _ _ F9 (news1 N9 (List.Mem.head _) (by tb_start)) ⟨_, _, rfl, rfl, fresh_sub (by with_reducible assumption) (by tb_start)⟩
theorem parts_iff (prog : Program) (w : World)  (a d : Nat) (o : Obj) (vs : List Value) (news : List (Addr × Obj)) (hm : (a, instObj 236 d) ∈ news) (ho : (d, o) ∈ news) (hf : FldIn w.params news (.iff) o vs) (hz : vs.length ≤ 1000) (hr : ∀ v ∈ vs, ∃ c : Nat, v = .ref c) : CallsTo prog w (hd.heap_1 w.params) 226 [.ref a] news 6 300 (ListPost vs news) := by
  have hfill9 : PySem.Challenge.rw_on0297_01 = PySem.Challenge.rw_on0297_01 ∧ hd.heap_1 = hd.heap_1 := by
    k_fill
    exact ⟨rfl, rfl⟩
  clear hfill9
  obtain ⟨c1, c2, c3, t1, t2, t3, rfl, rfl⟩ := hf
  obtain ⟨c1', rfl⟩ := hr c1 (.head _)
  obtain ⟨c2', rfl⟩ := hr c2 (.tail _ (.head _))
  obtain ⟨c3', rfl⟩ := hr c3 (.tail _ (.tail _ (.head _)))
  rintro p loose mean mg mb dp un gd ⟨⟨_, nm, ig, ic, mo⟩, lo, gl, ce, qu, fu, co, _, bu⟩ outer A₀ base h₀ L m s Q E rfl rfl B F X N T hd1 hu1 hret
  refine wpAny_call ?_
  k_dflt k_enter
  refine let_env ?_
  intro env9
  k_steps
  (rename Fr h₀ L _ m => F9); (rename News h₀ L _ _ => N9)
  exact hret _ _ _ _ F9 (news1 N9 (List.Mem.head _) (by tb_start)) ⟨_, _, rfl, rfl, fresh_sub (by with_reducible assumption) (by tb_start)⟩
theorem parts_lam (prog : Program) (w : World) (l r : Int) (ps : List Int) (a d : Nat) (o : Obj) (vs : List Value) (news : List (Addr × Obj)) (hm : (a, instObj 283 d) ∈ news) (ho : (d, o) ∈ news) (hf : FldIn w.params news (.lam l ps r) o vs) (hz : vs.length ≤ 1000) (hr : ∀ v ∈ vs, ∃ c : Nat, v = .ref c) : CallsTo prog w (hd.heap_1 w.params) 259 [.ref a] news 6 300 (ListPost vs news) := by
  have hfill9 : PySem.Challenge.rw_on0297_01 = PySem.Challenge.rw_on0297_01 ∧ hd.heap_1 = hd.heap_1 := by
    k_fill
    exact ⟨rfl, rfl⟩
  clear hfill9
  obtain ⟨c, q, us, n, t, u, t1, t2, t3, t4, rfl, hq, hi, _, rfl⟩ := hf
  obtain ⟨c', rfl⟩ := hr c (.head _)
  rintro p loose mean mg mb dp un gd ⟨⟨_, nm, ig, ic, mo⟩, lo, gl, ce, qu, fu, co, _, bu⟩ outer A₀ base h₀ L m s Q E rfl rfl B F X N T hd1 hu1 hret
  refine wpAny_call ?_
  k_dflt k_enter
  refine let_env ?_
  intro env9
  k_steps
  (rename Fr h₀ L _ m => F9); (rename News h₀ L _ _ => N9)
  exact hret _ _ _ _ F9 (news1 N9 (List.Mem.head _) (by tb_start)) ⟨_, _, rfl, rfl, fresh_sub (by with_reducible assumption) (by tb_start)⟩
theorem parts_call (prog : Program) (w : World)  (a d : Nat) (o : Obj) (vs : List Value) (news : List (Addr × Obj)) (hm : (a, instObj 316 d) ∈ news) (ho : (d, o) ∈ news) (hf : FldIn w.params news (.call) o vs) (hz : vs.length ≤ 1000) (hr : ∀ v ∈ vs, ∃ c : Nat, v = .ref c) : CallsTo prog w (hd.heap_1 w.params) 306 [.ref a] news 6 300 (ListPost vs news) := by
  have hfill9 : PySem.Challenge.rw_on0297_01 = PySem.Challenge.rw_on0297_01 ∧ hd.heap_1 = hd.heap_1 := by
    k_fill
    exact ⟨rfl, rfl⟩
  clear hfill9
  obtain ⟨c, q, cs, n, t1, t2, rfl, hq, rfl⟩ := hf
  obtain ⟨c', rfl⟩ := hr c (.head _)
  rintro p loose mean mg mb dp un gd ⟨⟨_, nm, ig, ic, mo⟩, lo, gl, ce, qu, fu, co, _, bu⟩ outer A₀ base h₀ L m s Q E rfl rfl B F X N T hd1 hu1 hret
  refine wpAny_call ?_
  k_dflt k_enter
  refine let_env ?_
  intro env9
  k_steps
  (rename Fr h₀ L _ m => F9); (rename News h₀ L _ _ => N9)
  exact hret _ _ _ _ F9 (news1 N9 (List.Mem.head _) (by tb_start)) ⟨_, _, rfl, rfl, fresh_sub (by with_reducible assumption) (by tb_start)⟩
theorem parts_seq (prog : Program) (w : World)  (a d : Nat) (o : Obj) (vs : List Value) (news : List (Addr × Obj)) (hm : (a, instObj 349 d) ∈ news) (ho : (d, o) ∈ news) (hf : FldIn w.params news (.seq) o vs) (hz : vs.length ≤ 1000) (hr : ∀ v ∈ vs, ∃ c : Nat, v = .ref c) : CallsTo prog w (hd.heap_1 w.params) 339 [.ref a] news 6 300 (ListPost vs news) := by
  have hfill9 : PySem.Challenge.rw_on0297_01 = PySem.Challenge.rw_on0297_01 ∧ hd.heap_1 = hd.heap_1 := by
    k_fill
    exact ⟨rfl, rfl⟩
  clear hfill9
  obtain ⟨q, n, t1, rfl, hq⟩ := hf
  rintro p loose mean mg mb dp un gd ⟨⟨_, nm, ig, ic, mo⟩, lo, gl, ce, qu, fu, co, _, bu⟩ outer A₀ base h₀ L m s Q E rfl rfl B F X N T hd1 hu1 hret
  refine wpAny_call ?_
  k_dflt k_enter
  refine let_env ?_
  intro env9
  k_steps
  (rename Fr h₀ L _ m => F9); (rename News h₀ L _ _ => N9)
  exact hret _ _ _ _ F9 (news1 N9 (List.Mem.head _) (by tb_start)) ⟨_, _, rfl, rfl, fresh_sub (by with_reducible assumption) (by tb_start)⟩
theorem parts_prim (prog : Program) (w : World) (k : Int) (a d : Nat) (o : Obj) (vs : List Value) (news : List (Addr × Obj)) (hm : (a, instObj 382 d) ∈ news) (ho : (d, o) ∈ news) (hf : FldIn w.params news (.prim k) o vs) (hz : vs.length ≤ 1000) (hr : ∀ v ∈ vs, ∃ c : Nat, v = .ref c) : CallsTo prog w (hd.heap_1 w.params) 372 [.ref a] news 6 300 (ListPost vs news) := by
  have hfill9 : PySem.Challenge.rw_on0297_01 = PySem.Challenge.rw_on0297_01 ∧ hd.heap_1 = hd.heap_1 := by
    k_fill
    exact ⟨rfl, rfl⟩
  clear hfill9
  obtain ⟨q, n, t, t1, t2, rfl, hq⟩ := hf
  rintro p loose mean mg mb dp un gd ⟨⟨_, nm, ig, ic, mo⟩, lo, gl, ce, qu, fu, co, _, bu⟩ outer A₀ base h₀ L m s Q E rfl rfl B F X N T hd1 hu1 hret
  refine wpAny_call ?_
  k_dflt k_enter
  refine let_env ?_
  intro env9
  k_steps
  (rename Fr h₀ L _ m => F9); (rename News h₀ L _ _ => N9)
  exact hret _ _ _ _ F9 (news1 N9 (List.Mem.head _) (by tb_start)) ⟨_, _, rfl, rfl, fresh_sub (by with_reducible assumption) (by tb_start)⟩
theorem parts_fix (prog : Program) (w : World) (k : Int) (a d : Nat) (o : Obj) (vs : List Value) (news : List (Addr × Obj)) (hm : (a, instObj 415 d) ∈ news) (ho : (d, o) ∈ news) (hf : FldIn w.params news (.fix k) o vs) (hz : vs.length ≤ 1000) (hr : ∀ v ∈ vs, ∃ c : Nat, v = .ref c) : CallsTo prog w (hd.heap_1 w.params) 405 [.ref a] news 6 300 (ListPost vs news) := by
  have hfill9 : PySem.Challenge.rw_on0297_01 = PySem.Challenge.rw_on0297_01 ∧ hd.heap_1 = hd.heap_1 := by
    k_fill
    exact ⟨rfl, rfl⟩
  clear hfill9
  obtain ⟨c, q, us, n, q2, cs, n2, t1, t2, t3, rfl, hq, hi, hq2, rfl⟩ := hf
  obtain ⟨c', rfl⟩ := hr c (List.mem_append_right _ (.head _))
  rintro p loose mean mg mb dp un gd ⟨⟨_, nm, ig, ic, mo⟩, lo, gl, ce, qu, fu, co, _, bu⟩ outer A₀ base h₀ L m s Q E rfl rfl B F X N T hd1 hu1 hret
  refine wpAny_call ?_
  k_dflt k_enter
  refine let_env ?_
  intro env9
  k_steps
  (rename Fr h₀ L _ m => F9); (rename News h₀ L _ _ => N9)
  exact hret _ _ _ _ F9 (news1 N9 (List.Mem.head _) (by tb_start)) ⟨_, _, rfl, rfl, fresh_sub (by with_reducible assumption) (by tb_start)⟩
/-- parts(), of any node -/
theorem parts_spec (prog : Program) (w : World) (h : KH) (a d : Nat) (o : Obj) (vs : List Value) (news : List (Addr × Obj)) (hm : (a, instObj h.cls d) ∈ news) (ho : (d, o) ∈ news) (hf : FldIn w.params news h o vs) (hz : vs.length ≤ 1000) (hr : ∀ v ∈ vs, ∃ c : Nat, v = .ref c) :
    CallsTo prog w (hd.heap_1 w.params) h.partsFn [.ref a] news 6 300 (ListPost vs news) := by
  cases h with
  | const k => obtain ⟨v, t1, hv, rfl, rfl⟩ := hf; exact parts_none prog w a news
  | loc k => obtain ⟨t, t1, rfl, rfl⟩ := hf; exact parts_none prog w a news
  | glob k => obtain ⟨t, t1, rfl, rfl⟩ := hf; exact parts_none prog w a news
  | setl k => exact parts_setl prog w k a d o vs news hm ho hf hz hr
  | setg k => exact parts_setg prog w k a d o vs news hm ho hf hz hr
  | defn k => exact parts_defn prog w k a d o vs news hm ho hf hz hr
  | iff => exact parts_iff prog w a d o vs news hm ho hf hz hr
  | lam l ps r => exact parts_lam prog w l r ps a d o vs news hm ho hf hz hr
  | call => exact parts_call prog w a d o vs news hm ho hf hz hr
  | seq => exact parts_seq prog w a d o vs news hm ho hf hz hr
  | prim k => exact parts_prim prog w k a d o vs news hm ho hf hz hr
  | fix k => exact parts_fix prog w k a d o vs news hm ho hf hz hr
end
section
set_option maxHeartbeats 6000000
theorem kw47 : True := by
  k_with_none
  k_with "ke_room" => (first | ((have hcL9ZZ := cLine_is; simp only [units_in1, units_deeper, Around.mark_units, units_caller]; (try dsimp only [arTop]); omega)) | fail)
  k_with "k_units" => (first | (ke_room) | fail)
  k_with "units_room" => (first | (ke_room) | fail)
  k_with "k_room" => (first | (((try simp only [depth_under_make, depth_under_kw, depth_in1, depth_deeper, depth_caller]); (try dsimp only [arTop]); (try simp only [recursionLimit]); omega)) | fail)
  k_with "ktr_room" => (first | (k_room) | fail)
  k_with "ktr_member" => (first | (first | exact allLt_ne (by with_reducible assumption) | exact allLt_ne1 (by with_reducible assumption) | exact allLt_ne2 (by with_reducible assumption) | exact off3_I (by with_reducible assumption) | exact off3_C (by with_reducible assumption) | exact off3_D (by with_reducible assumption) | exact off1_D (by with_reducible assumption)) | fail)
  k_with "k_ne" => (first | ((refine neN ?_; (try dsimp only); first | with_reducible assumption | exact Ne.symm (by with_reducible assumption) | exact Nat.ne_of_lt (by with_reducible assumption) | exact Nat.ne_of_gt (by with_reducible assumption) | omega)) | fail)
  k_with "kst_all" => (first | (first | with_reducible assumption | ktr_member | exact off_app (by first | with_reducible assumption | ktr_member) | exact off_app (off_app (by first | with_reducible assumption | ktr_member)) | exact off_app (off_app (off_app (by first | with_reducible assumption | ktr_member)))) | fail)
  k_with "kst_mem" => (first | ((refine' fil_mem ?aQ9 ?bQ9; (case aQ9 => k_mem); (case bQ9 => k_all))) | fail)
  k_with "kst_p" => (first | ((refine' fil_tree ?aQ10 ?bQ10 ?cQ10; (case aQ10 => with_reducible assumption); (case bQ10 => tb_start); (case cQ10 => exact fr_tl (by with_reducible assumption) (by with_reducible assumption) (by with_reducible assumption) (by with_reducible assumption) (by tb_start)))) | fail)
  k_with "k_all" => (first | (first | exact List.forall_mem_nil _ | (refine' List.forall_mem_cons.mpr ⟨?aQ11, ?bQ11⟩; (case aQ11 => k_ne); (case bQ11 => k_all)) | kst_all) | fail)
  k_with "lcg_off" => (first | (first | exact True.intro | (refine And.intro ⟨?aQ12, ?bQ12, ?cQ12⟩ ?dQ12; (case aQ12 => k_ne); (case bQ12 => k_ne); (case cQ12 => k_ne); (case dQ12 => lcg_off)) | with_reducible assumption | exact off3_of (by first | with_reducible assumption | ktr_member) (by first | with_reducible assumption | ktr_member) (by first | with_reducible assumption | ktr_member)) | fail)
  k_with "tb_rel" => (first | (first | with_reducible assumption | (refine List.mem_cons_of_mem _ ?_; tb_rel) | (refine List.mem_append.mpr (Or.inr ?_); tb_rel) | (refine List.mem_append.mpr (Or.inl ?_); tb_rel)) | fail)
  k_with "tb_start" => (first | ((intro p9ZZ hp9ZZ; tb_rel)) | fail)
  k_with "tbn_lt" => (first | (first | exact Ext.head | (refine' Ext.tail ?aQ15; (case aQ15 => tbn_lt))) | fail)
  k_with "tbn_below" => (first | (first | (refine' Split.cons ?aQ16; (case aQ16 => tbn_below)) | exact Split.base) | fail)
  k_with "tbn_conj" => (first | (first | exact True.intro | (refine' And.intro ?aQ17 ?bQ17; (case aQ17 => first | with_reducible assumption | ktr_member); (case bQ17 => tbn_conj))) | fail)
  k_with "my ite" => ((k_closed; first | (refine' iteBT ?p9Q18 ?_; (case p9Q18 => decide)) | (refine' iteBF ?p9Q18 ?_; (case p9Q18 => decide))))
  k_with "my CompEnd" => ((k_here; k_dflt (refine' comp_end ?FQ19 ?NQ19 ?e1Q19 ?e2Q19 ?e3Q19 ?offQ19 ?_; (case FQ19 => k_asm); (case NQ19 => k_asm); (case e1Q19 => tbn_lt); (case e2Q19 => tbn_lt); (case e3Q19 => tbn_lt); (case offQ19 => lcg_off))))
  k_with "my CompSrc" => ((k_here; k_dflt (refine LCg.CompSrc.range (by rfl) (by k_asm) (by k_asm) (by assumption) (by first | decide | rfl) (by first | rfl | decide) (by first | size_fits | exact Nat.le_of_ble_eq_true rfl) ?_; intro g'ZZ; lcg_lit)))
  k_with "my CompRest" => ((with_unfolding_all first | (refine LCg.CompRest.succ ?_; intro v'ZZ I'ZZ oI'ZZ C'ZZ oC'ZZ D'ZZ m'ZZ h'ZZ tk'ZZ E'ZZ hv'ZZ hC'ZZ hx'ZZ F'ZZ N'ZZ off'ZZ ne'ZZ; (first | lcg_open hv'ZZ | (obtain ⟨t9'ZZ, hv9'ZZ⟩ := hv'ZZ; subst hv9'ZZ)); (try dsimp only [LCg.Off3] at off'ZZ); (refine let_goal ?_); intro G9ZZ; (repeat (with_reducible obtain ⟨⟨_, _, _⟩, off'ZZ⟩ := off'ZZ)); (obtain ⟨_, _, _⟩ := ne'ZZ); k_unfold; clear G9ZZ) | refine LCg.CompRest.zero ?_))
  k_with "my FinE" => (((unfold LCg.FinE); intro D'ZZ h'ZZ tk'ZZ F'ZZ N'ZZ o1'ZZ; (try dsimp only [LCg.Off1] at o1'ZZ); (refine let_goal ?_); intro G9ZZ; (repeat (with_reducible obtain ⟨_, o1'ZZ⟩ := o1'ZZ)); k_unfold; clear G9ZZ; (try simp only [List.nil_append, List.cons_append] at N'ZZ); (try dsimp only)))
  trivial
structure LS where
  T : List (Int × Int)
  K : List (Int × Int)
  U : List (Int × Int)
  V : List (Int × Int)
/-- heads alike: what becomes of the four tables, or none -/
noncomputable def alike : KH → KH → LS → Option LS
  | .const k, .const k', S => if k = k' then some S else none
  | .loc n, .loc n', S => if goesB S.T S.K n n' = true then some { S with T := goesT S.T S.K n n', K := goesK S.T S.K n n' } else none
  | .setl n, .setl n', S => if goesB S.T S.K n n' = true then some { S with T := goesT S.T S.K n n', K := goesK S.T S.K n n' } else none
  | .glob k, .glob k', S => if k = k' then some S else none
  | .setg k, .setg k', S => if k = k' then some S else none
  | .defn k, .defn k', S => if k = k' then some S else none
  | .prim k, .prim k', S => if k = k' then some S else none
  | .iff, .iff, S => some S
  | .call, .call, S => some S
  | .seq, .seq, S => some S
  | .lam l ps r, .lam l' ps' r', S => if (decide (r < 0) == decide (r' < 0)) = true ∧ goesB S.U S.V l l' = true ∧ (decide ((bnd ps r).length = (bnd ps' r').length) && goB (bnd ps r) (bnd ps' r') S.T S.K) = true then
      some ⟨(goT (bnd ps r) (bnd ps' r') S.T S.K).1, (goT (bnd ps r) (bnd ps' r') S.T S.K).2, goesT S.U S.V l l', goesK S.U S.V l l'⟩ else none
  | .fix n, .fix n', S => if (decide ([n].length = [n'].length) && goB [n] [n'] S.T S.K) = true then some { S with T := (goT [n] [n'] S.T S.K).1, K := (goT [n] [n'] S.T S.K).2 } else none
  | _, _, _ => none
structure LikeDicts (prog : Program) (w : World) (oT oB pT pB : Obj) (S : LS) : Prop where
  T : IntDict prog w oT S.T
  K : IntDict prog w oB S.K
  U : IntDict prog w pT S.U
  V : IntDict prog w pB S.V
noncomputable def HeadsPost (prog : Program) (w : World) (dT dB eT eB : Nat) (h h' : KH) (S : LS) (rest : List (Addr × Obj)) (r : Value) (news' : List (Addr × Obj)) : Prop :=
  ∃ oT oB pT pB, r = .bool (alike h h' S).isSome ∧ news' = (dT, oT) :: (dB, oB) :: (eT, pT) :: (eB, pB) :: rest ∧ ∀ S', alike h h' S = some S' → LikeDicts prog w oT oB pT pB S'
section
variable {prog : Program} {w : World} {p : Program} {loose : List Str} {mean : ExcName → Option Value} {mg mb : Str → Option Value} {dp un : Nat} {gd : Option (List Code)} {env : Env} {outer : List Env} {A₀ : Around} {base h₀ : Heap} {L f : Addr} {m : Str → Option Value} {s : Shared} {Q E : Value → Shared → Prop} {l l1 rest : List (Addr × Obj)} {vs : List Value} {nd nu : Nat}
theorem all_use {x d dT dB : Nat} {t1 t2 : Tok} {oT oB : Obj} {cT cB : List (Int × Int)} {q1 q2 n1 n2 : Nat} {us vs : List Value} {as bs : List Int}
    (hf : env.frame = some L) (hk : env.scope.kind = .function) (B : Below A₀ base outer h₀) (F : Fr h₀ L s.heap m) (X : (hd.heap_1 w.params).In h₀) (N : News h₀ L s.heap l) (T : Top p loose mean mg mb h₀)
    (hT : IntDict prog w oT cT) (hB : IntDict prog w oB cB) (e1 : Ext (dT, oT) l l1) (e2 : Ext (dB, oB) l1 rest) (hL : LikeAt prog w x d dT dB t1 t2 rest) (hm1 : (q1, listOf us.toArray n1) ∈ rest) (hm2 : (q2, listOf vs.toArray n2) ∈ rest) (hi1 : IntsAre us as) (hi2 : IntsAre vs bs)
    (hcT : cT.length ≤ 850) (hcB : cB.length ≤ 850) (ha : as.length ≤ 50) (hb : bs.length ≤ 50) (hd1 : dp + 12 < 1000) (hu1 : un + 700 < 9900)
    (ret : ∀ oT oB h' tk', Fr h₀ L h' m → News h₀ L h' ((dT, oT) :: (dB, oB) :: rest) → ((decide (as.length = bs.length) && goB as bs cT cB) = true → IntDict prog w oT (goT as bs cT cB).1 ∧ IntDict prog w oB (goT as bs cT cB).2) → Q (.bool (decide (as.length = bs.length) && goB as bs cT cB)) { s with heap := h', toks := tk' }) :
    wpAny (model prog w) (arTop dp un gd env outer) (call (.ref 760) [.ref x, .ref q1, .ref q2]) Q E s := by
  have N1 : News h₀ L s.heap l1 := fun p hp => e1.news N p (.tail _ hp)
  refine all_spec prog w x d dT dB t1 t2 oT oB cT cB q1 q2 n1 n2 us vs as bs rest hL hT hB (by omega) (by omega) hm1 hm2 hi1 hi2 (by omega) _ _ _ _ _ _ _ _ _ _ _ _ _ _ _ _ _ _ hf hk B F X (news_cons N ((e1.mem _).mpr (.inl rfl)) (e2.news N1)) T hd1 hu1 ?_
  rintro r news' h' tk' F' N' ⟨oT', oB', rfl, rfl, h1⟩
  exact ret oT' oB' h' tk' F' N' h1
theorem list_use {vs : List Value} {args : List Value} (S : CallsTo prog w (hd.heap_1 w.params) f args l nd nu (ListPost vs l))
    (hf : env.frame = some L) (hk : env.scope.kind = .function) (B : Below A₀ base outer h₀) (F : Fr h₀ L s.heap m) (X : (hd.heap_1 w.params).In h₀) (N : News h₀ L s.heap l) (T : Top p loose mean mg mb h₀) (hd1 : dp + nd < 1000) (hu1 : un + nu < 9900)
    (ret : ∀ q n h' tk', Fr h₀ L h' m → News h₀ L h' ((q, listOf vs.toArray n) :: l) → (∀ p ∈ l, p.1 < q) → Q (.ref q) { s with heap := h', toks := tk' }) : wpAny (model prog w) (arTop dp un gd env outer) (call (.ref f) args) Q E s := by
  refine S _ _ _ _ _ _ _ _ _ _ _ _ _ _ _ _ _ _ hf hk B F X N T hd1 hu1 ?_
  rintro r news' h' tk' F' N' ⟨q, n, rfl, rfl, h1⟩
  exact ret q n h' tk' F' N' h1
end
theorem like_all {prog : Program} {w : World} {x d dT dB eT eB : Nat} {t1 t2 : Tok} {rest : List (Addr × Obj)} {p p' : Obj} (h : ∀ p p', LikeAt prog w x d dT dB t1 t2 ((eT, p) :: (eB, p') :: rest)) : LikeAt prog w x d dT dB t1 t2 ((eT, p) :: (eB, p') :: rest) := h p p'
theorem LikeAt.cons {prog : Program} {w : World} {x d dT dB q : Nat} {t1 t2 : Tok} {rest : List (Addr × Obj)} {o : Obj} (h : LikeAt prog w x d dT dB t1 t2 rest) (h1 : q ≠ dT) (h2 : q ≠ dB) : LikeAt prog w x d dT dB t1 t2 ((q, o) :: rest) :=
  ⟨.tail _ h.inst, .tail _ h.dict, h.ne, fun p hp => by
    rcases List.mem_cons.mp hp with rfl | hp
    · exact h1
    · exact h.offT p hp, fun p hp => by
    rcases List.mem_cons.mp hp with rfl | hp
    · exact h2
    · exact h.offB p hp, h.sysT, h.sysB⟩
section
variable {h h' : KH}
theorem two_const (e : h.kind = 0) (k : h'.kind = h.kind) : ∃ a b, h = .const a ∧ h' = .const b := by
  rw [e] at k; cases h <;> simp [KH.kind] at e; cases h' <;> simp [KH.kind] at k; exact ⟨_, _, rfl, rfl⟩
theorem two_loc (e : ((1 : Int) == h.kind || ((3 : Int) == h.kind || false)) = true) (k : h'.kind = h.kind) : (∃ a b, h = .loc a ∧ h' = .loc b) ∨ ∃ a b, h = .setl a ∧ h' = .setl b := by
  cases h <;> simp [KH.kind] at e
  · cases h' <;> simp [KH.kind] at k; exact .inl ⟨_, _, rfl, rfl⟩
  · cases h' <;> simp [KH.kind] at k; exact .inr ⟨_, _, rfl, rfl⟩
theorem two_glob (e : ((2 : Int) == h.kind || ((4 : Int) == h.kind || ((5 : Int) == h.kind || false))) = true) (k : h'.kind = h.kind) : (∃ a b, h = .glob a ∧ h' = .glob b) ∨ (∃ a b, h = .setg a ∧ h' = .setg b) ∨ ∃ a b, h = .defn a ∧ h' = .defn b := by
  cases h <;> simp [KH.kind] at e
  · cases h' <;> simp [KH.kind] at k; exact .inl ⟨_, _, rfl, rfl⟩
  · cases h' <;> simp [KH.kind] at k; exact .inr (.inl ⟨_, _, rfl, rfl⟩)
  · cases h' <;> simp [KH.kind] at k; exact .inr (.inr ⟨_, _, rfl, rfl⟩)
theorem two_prim (e : h.kind = 10) (k : h'.kind = h.kind) : ∃ a b, h = .prim a ∧ h' = .prim b := by
  rw [e] at k; cases h <;> simp [KH.kind] at e; cases h' <;> simp [KH.kind] at k; exact ⟨_, _, rfl, rfl⟩
theorem two_lam (e : h.kind = 7) (k : h'.kind = h.kind) : ∃ l ps r l' ps' r', h = .lam l ps r ∧ h' = .lam l' ps' r' := by
  rw [e] at k; cases h <;> simp [KH.kind] at e; cases h' <;> simp [KH.kind] at k; exact ⟨_, _, _, _, _, _, rfl, rfl⟩
theorem two_fix (e : h.kind = 11) (k : h'.kind = h.kind) : ∃ a b, h = .fix a ∧ h' = .fix b := by
  rw [e] at k; cases h <;> simp [KH.kind] at e; cases h' <;> simp [KH.kind] at k; exact ⟨_, _, rfl, rfl⟩
theorem two_rest {S : LS} (e0 : h.kind ≠ 0) (e1 : ((1 : Int) == h.kind || ((3 : Int) == h.kind || false)) = false) (e2 : ((2 : Int) == h.kind || ((4 : Int) == h.kind || ((5 : Int) == h.kind || false))) = false) (e3 : h.kind ≠ 10) (e4 : h.kind ≠ 7) (e5 : h.kind ≠ 11) (k : h'.kind = h.kind) : alike h h' S = some S := by
  cases h <;> simp [KH.kind] at e0 e1 e2 e3 e4 e5 <;> cases h' <;> simp [KH.kind] at k <;> rfl
end
theorem in_intsT {prog : Program} {w : World} {A : Around} {E : Value → Shared → Prop} {s : Shared} {h₀ : Heap} {L : Addr} {news : List (Addr × Obj)} {t : Addr} {vs : List Value} {n : Nat} {ys : List Int} {x : Int} {u : Tok} {Q : Value → Shared → Prop} (N : News h₀ L s.heap news) (hm : (t, tup vs n) ∈ news) (hi : IntsAre vs ys)
    (h : Q (.bool (ys.any (· == x))) s) : wpAny (model prog w) A (compareOp .In (.int x u) (.ref t)) Q E s := in_tuple_ints (News.isTup N hm) hi h
theorem in_intsD {prog : Program} {w : World} {A : Around} {E : Value → Shared → Prop} {s : Shared} {h₀ : Heap} {L : Addr} {l : List (Addr × Obj)} {t : Addr} {vs : List Value} {n : Nat} {ys : List Int} {x : Int} {u : Tok} {Q : Value → Shared → Prop} (N : News h₀ L s.heap ((t, tup vs n) :: l)) (hi : IntsAre vs ys)
    (h : News h₀ L s.heap l → Q (.bool (ys.any (· == x))) s) : wpAny (model prog w) A (compareOp .In (.int x u) (.ref t)) Q E s := in_tuple_ints (News.isTup N (List.Mem.head _)) hi (h fun p hp => N p (.tail _ hp))
theorem const_handed {k : Int} {v : Value} (h : ConstV k v) : handedIn v = true := by
  rcases h with ⟨_, t, rfl⟩ | ⟨_, rfl⟩ | ⟨_, t, rfl⟩ <;> rfl
theorem LikeAt.two {prog : Program} {w : World} {x d dT dB eT eB : Nat} {t1 t2 : Tok} {rest : List (Addr × Obj)} (h : LikeAt prog w x d dT dB t1 t2 rest) (h1 : eT ≠ dT) (h2 : eT ≠ dB) (h3 : eB ≠ dT) (h4 : eB ≠ dB) : ∀ p p', LikeAt prog w x d dT dB t1 t2 ((eT, p) :: (eB, p') :: rest) := fun _ _ => (h.cons h3 h4).cons h1 h2
section
variable {prog : Program} {w : World} {dT dB eT eB : Nat} {S : LS} {rest : List (Addr × Obj)} {oT oB pT pB : Obj}
theorem hp_atom {h h' : KH} {k k' : Int} (e : alike h h' S = if k = k' then some S else none) (hS : LikeDicts prog w oT oB pT pB S) : HeadsPost prog w dT dB eT eB h h' S rest (.bool (decide (k = k'))) ((dT, oT) :: (dB, oB) :: (eT, pT) :: (eB, pB) :: rest) := by
  refine ⟨oT, oB, pT, pB, ?_, rfl, fun S' q => ?_⟩
  · rw [e]; split <;> rename_i q
    · rw [decide_eq_true q]; rfl
    · rw [decide_eq_false q]; rfl
  · rw [e] at q; split at q
    · cases q; exact hS
    · cases q
theorem hp_goes {h h' : KH} {n n' : Int} (e : alike h h' S = if goesB S.T S.K n n' = true then some { S with T := goesT S.T S.K n n', K := goesK S.T S.K n n' } else none) (h1 : IntDict prog w oT (goesT S.T S.K n n')) (h2 : IntDict prog w oB (goesK S.T S.K n n')) (h3 : IntDict prog w pT S.U) (h4 : IntDict prog w pB S.V) :
    HeadsPost prog w dT dB eT eB h h' S rest (.bool (goesB S.T S.K n n')) ((dT, oT) :: (dB, oB) :: (eT, pT) :: (eB, pB) :: rest) := by
  refine ⟨oT, oB, pT, pB, ?_, rfl, fun S' q => ?_⟩
  · rw [e]; split <;> rename_i q
    · rw [q]; rfl
    · rw [Bool.eq_false_iff.mpr q]; rfl
  · rw [e] at q; split at q
    · cases q; exact ⟨h1, h2, h3, h4⟩
    · cases q
theorem hp_atomB {h h' : KH} {k k' : Int} (e : alike h h' S = if k = k' then some S else none) (hS : LikeDicts prog w oT oB pT pB S) : HeadsPost prog w dT dB eT eB h h' S rest (.bool (k == k')) ((dT, oT) :: (dB, oB) :: (eT, pT) :: (eB, pB) :: rest) := by
  have q : (k == k') = decide (k = k') := rfl
  rw [q]; exact hp_atom e hS
theorem hp_rest {h h' : KH} (e5 : h.kind ≠ 11) (e : alike h h' S = some S) (hS : LikeDicts prog w oT oB pT pB S) : HeadsPost prog w dT dB eT eB h h' S rest (.bool (h.kind != 11)) ((dT, oT) :: (dB, oB) :: (eT, pT) :: (eB, pB) :: rest) := by
  refine ⟨oT, oB, pT, pB, ?_, rfl, fun S' q => ?_⟩
  · rw [e, bne_iff_ne.mpr e5]; rfl
  · rw [e] at q; cases q; exact hS
theorem hp_none {h h' : KH} (e : alike h h' S = none) : HeadsPost prog w dT dB eT eB h h' S rest (.bool false) ((dT, oT) :: (dB, oB) :: (eT, pT) :: (eB, pB) :: rest) :=
  ⟨oT, oB, pT, pB, by rw [e]; rfl, rfl, fun S' q => by rw [e] at q; cases q⟩
theorem lam_none1 {l l' r r' : Int} {ps ps' : List Int} (h : (decide (r < 0) == decide (r' < 0)) = false) : alike (.lam l ps r) (.lam l' ps' r') S = none := by
  unfold alike; dsimp only; rw [if_neg (fun q => by rw [h] at q; cases q.1)]
theorem lam_none2 {l l' r r' : Int} {ps ps' : List Int} (h : goesB S.U S.V l l' = false) : alike (.lam l ps r) (.lam l' ps' r') S = none := by
  unfold alike; dsimp only; rw [if_neg (fun q => by rw [h] at q; cases q.2.1)]
theorem hp_lam {l l' r r' : Int} {ps ps' : List Int} (h1 : (decide (r < 0) == decide (r' < 0)) = true) (h2 : goesB S.U S.V l l' = true)
    (h3 : (decide ((bnd ps r).length = (bnd ps' r').length) && goB (bnd ps r) (bnd ps' r') S.T S.K) = true → IntDict prog w oT (goT (bnd ps r) (bnd ps' r') S.T S.K).1 ∧ IntDict prog w oB (goT (bnd ps r) (bnd ps' r') S.T S.K).2) (h4 : IntDict prog w pT (goesT S.U S.V l l')) (h5 : IntDict prog w pB (goesK S.U S.V l l')) :
    HeadsPost prog w dT dB eT eB (.lam l ps r) (.lam l' ps' r') S rest (.bool (decide ((bnd ps r).length = (bnd ps' r').length) && goB (bnd ps r) (bnd ps' r') S.T S.K)) ((dT, oT) :: (dB, oB) :: (eT, pT) :: (eB, pB) :: rest) := by
  cases h6 : (decide ((bnd ps r).length = (bnd ps' r').length) && goB (bnd ps r) (bnd ps' r') S.T S.K)
  · exact hp_none (by unfold alike; dsimp only; rw [if_neg (fun q => by rw [h6] at q; cases q.2.2)])
  · have e : alike (.lam l ps r) (.lam l' ps' r') S = some ⟨(goT (bnd ps r) (bnd ps' r') S.T S.K).1, (goT (bnd ps r) (bnd ps' r') S.T S.K).2, goesT S.U S.V l l', goesK S.U S.V l l'⟩ := by
      unfold alike; dsimp only; rw [if_pos ⟨h1, h2, h6⟩]
    exact ⟨oT, oB, pT, pB, by rw [e]; rfl, rfl, fun S' q => by rw [e] at q; cases q; exact ⟨(h3 h6).1, (h3 h6).2, h4, h5⟩⟩
theorem hp_fix {k k' : Int} (h3 : (decide ([k].length = [k'].length) && goB [k] [k'] S.T S.K) = true → IntDict prog w oT (goT [k] [k'] S.T S.K).1 ∧ IntDict prog w oB (goT [k] [k'] S.T S.K).2) (h4 : IntDict prog w pT S.U) (h5 : IntDict prog w pB S.V) :
    HeadsPost prog w dT dB eT eB (.fix k) (.fix k') S rest (.bool (decide ([k].length = [k'].length) && goB [k] [k'] S.T S.K)) ((dT, oT) :: (dB, oB) :: (eT, pT) :: (eB, pB) :: rest) := by
  cases h6 : (decide ([k].length = [k'].length) && goB [k] [k'] S.T S.K)
  · exact hp_none (by unfold alike; dsimp only; rw [if_neg (fun q => by rw [h6] at q; cases q)])
  · have e : alike (.fix k) (.fix k') S = some { S with T := (goT [k] [k'] S.T S.K).1, K := (goT [k] [k'] S.T S.K).2 } := by
      unfold alike; dsimp only; rw [if_pos h6]
    exact ⟨oT, oB, pT, pB, by rw [e]; rfl, rfl, fun S' q => by rw [e] at q; cases q; exact ⟨(h3 h6).1, (h3 h6).2, h4, h5⟩⟩
end
theorem q_ne {l : List (Addr × Obj)} {q d : Nat} {o : Obj} (l1 : ∀ p ∈ l, p.1 < q) (hm : (d, o) ∈ l) : q ≠ d := Ne.symm (Nat.ne_of_lt (l1 _ hm))
theorem bnd_ints2 {us : List Value} {ps : List Int} {r : Int} {t : Tok} (h : IntsAre us ps) : IntsAre (us ++ if 0 ≤ r then [.int r t] else []) (bnd ps r) := by
  unfold bnd
  split
  · exact h.append (.cons _ _ .nil)
  · exact h.append .nil
theorem bnd_len50 {ps : List Int} {r : Int} (h : ps.length ≤ 3) : (bnd ps r).length ≤ 50 := by
  unfold bnd; rw [List.length_append]; split <;> simp <;> omega
theorem ints_len {us : List Value} {ps : List Int} (h : IntsAre us ps) (h3 : ps.length ≤ 3) : us.length ≤ 10 := by rw [h.length]; omega
theorem news_perm {h₀ : Heap} {L : Addr} {h : Heap} {x1 x2 x3 x4 : Addr × Obj} {l : List (Addr × Obj)} (N : News h₀ L h (x1 :: x2 :: x3 :: x4 :: l)) : News h₀ L h (x3 :: x4 :: x1 :: x2 :: l) := by
  intro p hp
  apply N p
  simp only [List.mem_cons] at hp ⊢
  rcases hp with h | h | h | h | h <;> simp [h]
theorem news_drop2 {h₀ : Heap} {L : Addr} {h : Heap} {x1 x2 x3 x4 : Addr × Obj} {l : List (Addr × Obj)} (N : News h₀ L h (x1 :: x2 :: x3 :: x4 :: l)) : News h₀ L h (x1 :: x2 :: l) := by
  intro p hp
  apply N p
  simp only [List.mem_cons] at hp ⊢
  rcases hp with h | h | h <;> simp [h]
theorem beq_of_bne {a b c : Bool} (h : (a != b) = c) : (a == b) = !c := by cases a <;> cases b <;> cases c <;> first | rfl | cases h
/-- two nodes of one kind, opened -/
structure TwoAt (P : Params) (rest : List (Addr × Obj)) (h h' : KH) (a a' d d' : Nat) (o o' : Obj) (vs vs' : List Value) : Prop where
  hk : h'.kind = h.kind
  hm : (a, instObj h.cls d) ∈ rest
  ho : (d, o) ∈ rest
  hf : FldIn P rest h o vs
  hm' : (a', instObj h'.cls d') ∈ rest
  ho' : (d', o') ∈ rest
  hf' : FldIn P rest h' o' vs'
  hr : ∀ v ∈ vs, ∃ c : Nat, v = .ref c
  hr' : ∀ v ∈ vs', ∃ c : Nat, v = .ref c
section
variable {P : Params} {rest : List (Addr × Obj)} {h h' : KH} {a a' d d' : Nat} {o o' : Obj} {vs vs' : List Value} {G : Prop}
theorem el_const (t : TwoAt P rest h h' a a' d d' o o' vs vs') (e : h.kind = 0)
    (H : ∀ (k1 k2 : Int) (v1 v2 : Value) (u1 u2 : Tok), h = .const k1 → h' = .const k2 → (a, instObj 66 d) ∈ rest → (d, dictOf [fe P "value" u1 v1] 1) ∈ rest → (a', instObj 66 d') ∈ rest → (d', dictOf [fe P "value" u2 v2] 1) ∈ rest → ConstV k1 v1 → ConstV k2 v2 → G) : G := by
  obtain ⟨hk, hm, ho, hf, hm', ho', hf', _, _⟩ := t
  obtain ⟨k1, k2, rfl, rfl⟩ := two_const e hk
  obtain ⟨v1, u1, hv1, rfl, _⟩ := hf
  obtain ⟨v2, u2, hv2, rfl, _⟩ := hf'
  exact H k1 k2 v1 v2 u1 u2 rfl rfl hm ho hm' ho' hv1 hv2
theorem el_loc (t : TwoAt P rest h h' a a' d d' o o' vs vs') (e : ((1 : Int) == h.kind || ((3 : Int) == h.kind || false)) = true)
    (H1 : ∀ (k1 k2 : Int) (t1 t2 u1 u2 : Tok), h = .loc k1 → h' = .loc k2 → (a, instObj 85 d) ∈ rest → (d, dictOf [fe P "number" u1 (.int k1 t1)] 1) ∈ rest → (a', instObj 85 d') ∈ rest → (d', dictOf [fe P "number" u2 (.int k2 t2)] 1) ∈ rest → G)
    (H2 : ∀ (k1 k2 : Int) (c1 c2 : Value) (t1 t2 u1 u2 u3 u4 : Tok), h = .setl k1 → h' = .setl k2 → (a, instObj 137 d) ∈ rest → (d, dictOf [fe P "number" u1 (.int k1 t1), fe P "value" u3 c1] 2) ∈ rest → (a', instObj 137 d') ∈ rest → (d', dictOf [fe P "number" u2 (.int k2 t2), fe P "value" u4 c2] 2) ∈ rest → G) : G := by
  obtain ⟨hk, hm, ho, hf, hm', ho', hf', _, _⟩ := t
  rcases two_loc e hk with ⟨k1, k2, rfl, rfl⟩ | ⟨k1, k2, rfl, rfl⟩
  · obtain ⟨t1, u1, rfl, _⟩ := hf
    obtain ⟨t2, u2, rfl, _⟩ := hf'
    exact H1 k1 k2 t1 t2 u1 u2 rfl rfl hm ho hm' ho'
  · obtain ⟨c1, t1, u1, u3, rfl, _⟩ := hf
    obtain ⟨c2, t2, u2, u4, rfl, _⟩ := hf'
    exact H2 k1 k2 c1 c2 t1 t2 u1 u2 u3 u4 rfl rfl hm ho hm' ho'
theorem el_glob (t : TwoAt P rest h h' a a' d d' o o' vs vs') (e : ((2 : Int) == h.kind || ((4 : Int) == h.kind || ((5 : Int) == h.kind || false))) = true)
    (H1 : ∀ (k1 k2 : Int) (t1 t2 u1 u2 : Tok), h = .glob k1 → h' = .glob k2 → (a, instObj 104 d) ∈ rest → (d, dictOf [fe P "symbol" u1 (.int k1 t1)] 1) ∈ rest → (a', instObj 104 d') ∈ rest → (d', dictOf [fe P "symbol" u2 (.int k2 t2)] 1) ∈ rest → G)
    (H2 : ∀ (k1 k2 : Int) (c1 c2 : Value) (t1 t2 u1 u2 u3 u4 : Tok), h = .setg k1 → h' = .setg k2 → (a, instObj 170 d) ∈ rest → (d, dictOf [fe P "symbol" u1 (.int k1 t1), fe P "value" u3 c1] 2) ∈ rest → (a', instObj 170 d') ∈ rest → (d', dictOf [fe P "symbol" u2 (.int k2 t2), fe P "value" u4 c2] 2) ∈ rest → G)
    (H3 : ∀ (k1 k2 : Int) (c1 c2 : Value) (t1 t2 u1 u2 u3 u4 : Tok), h = .defn k1 → h' = .defn k2 → (a, instObj 203 d) ∈ rest → (d, dictOf [fe P "symbol" u1 (.int k1 t1), fe P "value" u3 c1] 2) ∈ rest → (a', instObj 203 d') ∈ rest → (d', dictOf [fe P "symbol" u2 (.int k2 t2), fe P "value" u4 c2] 2) ∈ rest → G) : G := by
  obtain ⟨hk, hm, ho, hf, hm', ho', hf', _, _⟩ := t
  rcases two_glob e hk with ⟨k1, k2, rfl, rfl⟩ | ⟨k1, k2, rfl, rfl⟩ | ⟨k1, k2, rfl, rfl⟩
  · obtain ⟨t1, u1, rfl, _⟩ := hf
    obtain ⟨t2, u2, rfl, _⟩ := hf'
    exact H1 k1 k2 t1 t2 u1 u2 rfl rfl hm ho hm' ho'
  · obtain ⟨c1, t1, u1, u3, rfl, _⟩ := hf
    obtain ⟨c2, t2, u2, u4, rfl, _⟩ := hf'
    exact H2 k1 k2 c1 c2 t1 t2 u1 u2 u3 u4 rfl rfl hm ho hm' ho'
  · obtain ⟨c1, t1, u1, u3, rfl, _⟩ := hf
    obtain ⟨c2, t2, u2, u4, rfl, _⟩ := hf'
    exact H3 k1 k2 c1 c2 t1 t2 u1 u2 u3 u4 rfl rfl hm ho hm' ho'
theorem el_prim (t : TwoAt P rest h h' a a' d d' o o' vs vs') (e : h.kind = 10)
    (H : ∀ (k1 k2 : Int) (q1 q2 : Nat) (t1 t2 u1 u2 u3 u4 : Tok), h = .prim k1 → h' = .prim k2 → (a, instObj 382 d) ∈ rest → (d, dictOf [fe P "op" u1 (.int k1 t1), fe P "operands" u3 (.ref q1)] 2) ∈ rest → (a', instObj 382 d') ∈ rest → (d', dictOf [fe P "op" u2 (.int k2 t2), fe P "operands" u4 (.ref q2)] 2) ∈ rest → G) : G := by
  obtain ⟨hk, hm, ho, hf, hm', ho', hf', _, _⟩ := t
  obtain ⟨k1, k2, rfl, rfl⟩ := two_prim e hk
  obtain ⟨q1, n1, t1, u1, u3, rfl, _⟩ := hf
  obtain ⟨q2, n2, t2, u2, u4, rfl, _⟩ := hf'
  exact H k1 k2 q1 q2 t1 t2 u1 u2 u3 u4 rfl rfl hm ho hm' ho'
theorem el_lam (t : TwoAt P rest h h' a a' d d' o o' vs vs') (e : h.kind = 7)
    (H : ∀ (k1 : Int) (ps1 : List Int) (r1 k2 : Int) (ps2 : List Int) (r2 : Int) (c1 c2 q1 q2 m1 m2 : Nat) (us1 us2 : List Value) (a1 a2 a3 a4 a5 a6 b1 b2 b3 b4 b5 b6 : Tok), h = .lam k1 ps1 r1 → h' = .lam k2 ps2 r2 → (a, instObj 283 d) ∈ rest →
      (d, dictOf [fe P "label" a3 (.int k1 a1), fe P "params" a4 (.ref q1), fe P "rest" a5 (.int r1 a2), fe P "body" a6 (.ref c1)] 4) ∈ rest → (a', instObj 283 d') ∈ rest → (d', dictOf [fe P "label" b3 (.int k2 b1), fe P "params" b4 (.ref q2), fe P "rest" b5 (.int r2 b2), fe P "body" b6 (.ref c2)] 4) ∈ rest →
      (q1, listOf us1.toArray m1) ∈ rest → (q2, listOf us2.toArray m2) ∈ rest → us1.length ≤ 10 → us2.length ≤ 10 → IntsAre (us1 ++ if 0 ≤ r1 then [.int r1 a2] else []) (bnd ps1 r1) → IntsAre (us2 ++ if 0 ≤ r2 then [.int r2 b2] else []) (bnd ps2 r2) → (bnd ps1 r1).length ≤ 50 → (bnd ps2 r2).length ≤ 50 → G) : G := by
  obtain ⟨hk, hm, ho, hf, hm', ho', hf', hr, hr'⟩ := t
  obtain ⟨k1, ps1, r1, k2, ps2, r2, rfl, rfl⟩ := two_lam e hk
  obtain ⟨c1, q1, us1, m1, a1, a2, a3, a4, a5, a6, rfl, hq1, hi1, hz1, rfl⟩ := hf
  obtain ⟨c2, q2, us2, m2, b1, b2, b3, b4, b5, b6, rfl, hq2, hi2, hz2, rfl⟩ := hf'
  obtain ⟨c1, rfl⟩ := hr c1 (.head _)
  obtain ⟨c2, rfl⟩ := hr' c2 (.head _)
  exact H k1 ps1 r1 k2 ps2 r2 c1 c2 q1 q2 m1 m2 us1 us2 a1 a2 a3 a4 a5 a6 b1 b2 b3 b4 b5 b6 rfl rfl hm ho hm' ho' hq1 hq2 (ints_len hi1 hz1) (ints_len hi2 hz2) (bnd_ints2 hi1) (bnd_ints2 hi2) (bnd_len50 hz1) (bnd_len50 hz2)
theorem el_fix (t : TwoAt P rest h h' a a' d d' o o' vs vs') (e : h.kind = 11)
    (H : ∀ (k1 k2 : Int) (c1 c2 q1 q2 q3 q4 m1 m2 : Nat) (us1 us2 : List Value) (a1 a2 a3 b1 b2 b3 : Tok), h = .fix k1 → h' = .fix k2 → (a, instObj 415 d) ∈ rest → (d, dictOf [fe P "numbers" a1 (.ref q1), fe P "lambdas" a2 (.ref q3), fe P "body" a3 (.ref c1)] 3) ∈ rest → (a', instObj 415 d') ∈ rest →
      (d', dictOf [fe P "numbers" b1 (.ref q2), fe P "lambdas" b2 (.ref q4), fe P "body" b3 (.ref c2)] 3) ∈ rest → (q1, listOf us1.toArray m1) ∈ rest → (q2, listOf us2.toArray m2) ∈ rest → IntsAre us1 [k1] → IntsAre us2 [k2] → G) : G := by
  obtain ⟨hk, hm, ho, hf, hm', ho', hf', hr, hr'⟩ := t
  obtain ⟨k1, k2, rfl, rfl⟩ := two_fix e hk
  obtain ⟨c1, q1, us1, m1, q3, cs1, m3, a1, a2, a3, rfl, hq1, hi1, _, rfl⟩ := hf
  obtain ⟨c2, q2, us2, m2, q4, cs2, m4, b1, b2, b3, rfl, hq2, hi2, _, rfl⟩ := hf'
  obtain ⟨c1, rfl⟩ := hr c1 (List.mem_append_right _ (.head _))
  obtain ⟨c2, rfl⟩ := hr' c2 (List.mem_append_right _ (.head _))
  exact H k1 k2 c1 c2 q1 q2 q3 q4 m1 m2 us1 us2 a1 a2 a3 b1 b2 b3 rfl rfl hm ho hm' ho' hq1 hq2 hi1 hi2
end
theorem kw48 : True := by
  k_with "k_mem" => (first | (first | exact List.Mem.head _ | (refine' List.mem_cons_of_mem _ ?_; k_mem) | with_reducible assumption) | fail)
  k_with "my exec Assign" => (k_fold)
  k_with "my exec If" => (k_fold)
  k_with "my exec Return" => (k_fold)
  k_with "my exec Expr" => (k_fold)
  k_with "my newTuple" => ((k_here; k_dflt (refine' kup_newTuple ?FQ181 ?NQ181 ?_ ?zQ181; (case FQ181 => k_asm); (case NQ181 => k_asm); (case zQ181 => kmk_size)); intro D'ZZ h'ZZ F'ZZ N'ZZ l1ZZ; clear l1ZZ; (try k_sweep)))
  k_with "my storeName" => ((k_here; k_dflt (refine' storeX_L ?FQ182 ?NQ182 ?_ ?aQ182 ?bQ182; (case FQ182 => k_asm); (case NQ182 => k_asm); (case aQ182 => rfl); (case bQ182 => rfl); k_whole; intro h'ZZ F'ZZ N'ZZ; (try k_sweep)); (refine let_m F'ZZ ?_); clear F'ZZ; intro m'ZZ F'ZZ))
  k_with "k_ne" => (first | ((refine neN ?_; (try dsimp only); first | with_reducible assumption | exact Ne.symm (by with_reducible assumption) | exact neC (by k_asm) (by k_mem) (by k_mem) tl_ne)) | fail)
  k_with "my binaryOp Add ref ref" => ((k_here; (with_reducible show wpAny _ _ (binaryOp _ (Value.ref _) (Value.ref _)) _ _ _); k_dflt (refine' kmk_add_lit ?FQ184 ?NQ184 ?aQ184 ?bQ184 ?eQ184 ?_ ?zQ184; (case FQ184 => k_asm); (case NQ184 => k_asm); (case aQ184 => exact News.isList (by k_asm) (by k_mem)); (case bQ184 => exact News.isList (by k_asm) (by k_mem)); (case eQ184 => rfl); (case zQ184 => exact cat_len (by with_reducible assumption))); intro D'ZZ h'ZZ F'ZZ N'ZZ l1ZZ; (try k_sweep)))
  k_with "my call type:list" => ((k_here; (with_reducible show wpAny _ _ (call (Value.type _) [Value.ref _]) _ _ _); k_dflt (refine' list_copyK ?FQ185 ?NQ185 ?aQ185 ?_ ?zQ185; (case FQ185 => k_asm); (case NQ185 => k_asm); (case aQ185 => exact News.isList (by k_asm) (by k_mem)); (case zQ185 => exact len_toL (by with_reducible assumption)); k_whole); intro D'ZZ c'ZZ h'ZZ F'ZZ N'ZZ l1ZZ; (try k_sweep)))
  k_with "my newList" => ((k_here; k_dflt (refine' newList_K ?k1Q186 ?k2Q186 ?_; (case k1Q186 => k_asm); (case k2Q186 => k_asm); k_whole); intro l'ZZ h'ZZ F'ZZ N'ZZ l1ZZ; (try k_sweep)))
  trivial
theorem binders_spec (prog : Program) (w : World) (a d q n c : Nat) (us : List Value) (l r : Int) (t u t1 t2 t3 t4 : Tok) (news : List (Addr × Obj)) (hm : (a, instObj 283 d) ∈ news) (ho : (d, dictOf [fe w.params "label" t1 (.int l t), fe w.params "params" t2 (.ref q), fe w.params "rest" t3 (.int r u), fe w.params "body" t4 (.ref c)] 4) ∈ news)
    (hq : (q, listOf us.toArray n) ∈ news) (hz : us.length ≤ 10) : CallsTo prog w (hd.heap_1 w.params) 273 [.ref a] news 6 300 (ListPost (us ++ if 0 ≤ r then [.int r u] else []) news) := by
  have hfill9 : PySem.Challenge.rw_on0297_01 = PySem.Challenge.rw_on0297_01 ∧ hd.heap_1 = hd.heap_1 := by
    k_fill
    exact ⟨rfl, rfl⟩
  clear hfill9
  have hz1 : us.length ≤ 1000 := by omega
  have hz2 : (us ++ [Value.int r u]).length ≤ 1000 := by rw [List.length_append, List.length_singleton]; omega
  rintro p loose mean mg mb dp un gd ⟨⟨_, nm, ig, ic, mo⟩, lo, gl, ce, qu, fu, co, _, bu⟩ outer A₀ base h₀ L m s Q E rfl rfl B F X N T hd1 hu1 hret
  refine wpAny_call ?_
  k_dflt k_enter
  refine let_env ?_
  intro env9
  k_steps
  · (rename Fr h₀ L _ m => F9); (rename News h₀ L _ _ => N9)
    rw [if_pos (by with_reducible assumption)] at hret
    exact hret _ _ _ _ F9 (news1 N9 (List.Mem.head _) (by tb_start)) ⟨_, _, rfl, rfl, fresh_sub (by with_reducible assumption) (by tb_start)⟩
  · (rename Fr h₀ L _ m => F9); (rename News h₀ L _ _ => N9)
    rw [if_neg (by with_reducible assumption), List.append_nil] at hret
    exact hret _ _ _ _ F9 (news1 N9 (List.Mem.head _) (by tb_start)) ⟨_, _, rfl, rfl, fresh_sub (by with_reducible assumption) (by tb_start)⟩
theorem kw49 : True := by
  k_with "my getAttr ref" => (((fail_if_success (with_reducible rename Mk3 => q9ZZ)); (first | (with_reducible show wpAny _ _ (getAttr (Value.ref _) (Str.ofString "value") _) _ _ _) | (with_reducible show wpAny _ _ (getAttr (Value.ref _) (Str.ofString "number") _) _ _ _) | (with_reducible show wpAny _ _ (getAttr (Value.ref _) (Str.ofString "symbol") _) _ _ _) | (with_reducible show wpAny _ _ (getAttr (Value.ref _) (Str.ofString "op") _) _ _ _) | (with_reducible show wpAny _ _ (getAttr (Value.ref _) (Str.ofString "rest") _) _ _ _) | (with_reducible show wpAny _ _ (getAttr (Value.ref _) (Str.ofString "numbers") _) _ _ _)); refine Stop.out ?_))
  k_with "my getAttr ref" => ((k_here; (with_reducible show wpAny _ _ (getAttr (Value.ref _) (Str.ofString "kind") _) _ _ _); k_dflt (refine' attr_kind ?FQ188 ?XQ188 ?NQ188 ?mQ188 ?oQ188 ?fQ188 ?_; (case FQ188 => k_asm); (case XQ188 => k_asm); (case NQ188 => k_asm); (case mQ188 => k_mem); (case oQ188 => k_mem); (case fQ188 => with_reducible assumption)); intro t'ZZ tk'ZZ))
  k_with "my compareOp In int ref" => ((k_here; k_dflt (refine' in_intsD ?NQ189 ?bQ189 ?_; (case NQ189 => k_asm); (case bQ189 => first | exact .cons _ _ (.cons _ _ .nil) | exact .cons _ _ (.cons _ _ (.cons _ _ .nil)))); intro N8ZZ; (try dsimp only [List.any_cons, List.any_nil])))
  k_with "k_handed" => (first | (with_reducible assumption) | fail)
  k_with "my call ref" => ((k_here; (with_reducible show wpAny _ _ (call (Value.ref 753) [Value.ref _, Value.int _ _, Value.int _ _]) _ _ _); k_dflt (refine' goes_use ?hfQ191 ?hkQ191 ?BQ191 ?FQ191 ?XQ191 ?NQ191 ?TQ191 ?hTQ191 ?hBQ191 ?e1Q191 ?e2Q191 (like_all ?hLQ191) ?hcTQ191 ?hcBQ191 ?hd1Q191 ?hu1Q191 ?_; (case hfQ191 => rfl); (case hkQ191 => first | rfl | assumption); (case BQ191 => k_asm); (case FQ191 => k_asm); (case XQ191 => k_in); (case NQ191 => k_asm); (case TQ191 => k_asm); (case hLQ191 => with_reducible assumption); (case e1Q191 => tbn_lt); (case e2Q191 => tbn_lt); (case hTQ191 => with_reducible assumption); (case hBQ191 => with_reducible assumption); (case hcTQ191 => exact Nat.le_trans (by with_reducible assumption) (by decide)); (case hcBQ191 => exact Nat.le_trans (by with_reducible assumption) (by decide)); (case hd1Q191 => k_room); (case hu1Q191 => ke_room)); intro oT'ZZ oB'ZZ h'ZZ tk'ZZ F'ZZ N'ZZ hT'ZZ hB'ZZ; (try k_sweep)))
  k_with "my call ref" => ((k_here; (with_reducible show wpAny _ _ (call (Value.ref 732) [_, _]) _ _ _); k_dflt (refine' bool_use (sd_spec _ _ _ _ _ _ ?c1Q192 ?c2Q192 _) ?hfQ192 ?hkQ192 ?BQ192 ?FQ192 ?XQ192 ?NQ192 ?TQ192 ?hd1Q192 ?hu1Q192 ?_; (case c1Q192 => with_reducible assumption); (case c2Q192 => with_reducible assumption); (case hfQ192 => rfl); (case hkQ192 => first | rfl | assumption); (case BQ192 => k_asm); (case FQ192 => k_asm); (case XQ192 => k_in); (case NQ192 => k_asm); (case TQ192 => k_asm); (case hd1Q192 => k_room); (case hu1Q192 => ke_room)); intro h'ZZ tk'ZZ F'ZZ N'ZZ; (try k_sweep)))
  k_with "my call" => ((k_here; (try dsimp only [List.append_nil]); k_dflt (refine' list_use (binders_spec _ _ _ _ _ _ _ _ _ _ _ _ _ _ _ _ _ ?c1Q193 ?c2Q193 ?c3Q193 ?c4Q193) ?hfQ193 ?hkQ193 ?BQ193 ?FQ193 ?XQ193 ?NQ193 ?TQ193 ?hd1Q193 ?hu1Q193 ?_; (case hfQ193 => rfl); (case hkQ193 => first | rfl | assumption); (case BQ193 => k_asm); (case FQ193 => k_asm); (case XQ193 => k_in); (case NQ193 => k_asm); (case c1Q193 => k_mem); (case c2Q193 => k_mem); (case c3Q193 => k_mem); (case c4Q193 => with_reducible assumption); (case TQ193 => k_asm); (case hd1Q193 => k_room); (case hu1Q193 => ke_room)); intro q8ZZ n8ZZ h'ZZ tk'ZZ F'ZZ N'ZZ l1ZZ; (try k_sweep)))
  k_with "my call ref" => ((k_here; (try dsimp only [List.append_nil]); k_dflt (refine' list_use (binders_spec _ _ _ _ _ _ _ _ _ _ _ _ _ _ _ _ _ ?c1Q194 ?c2Q194 ?c3Q194 ?c4Q194) ?hfQ194 ?hkQ194 ?BQ194 ?FQ194 ?XQ194 ?NQ194 ?TQ194 ?hd1Q194 ?hu1Q194 ?_; (case hfQ194 => rfl); (case hkQ194 => first | rfl | assumption); (case BQ194 => k_asm); (case FQ194 => k_asm); (case XQ194 => k_in); (case NQ194 => k_asm); (case c1Q194 => k_mem); (case c2Q194 => k_mem); (case c3Q194 => k_mem); (case c4Q194 => with_reducible assumption); (case TQ194 => k_asm); (case hd1Q194 => k_room); (case hu1Q194 => ke_room)); intro q8ZZ n8ZZ h'ZZ tk'ZZ F'ZZ N'ZZ l1ZZ; (try k_sweep)))
  k_with "my call ref" => ((k_here; (with_reducible show wpAny _ _ (call (Value.ref 760) [_, _, _]) _ _ _); k_dflt (refine' all_use ?hfQ195 ?hkQ195 ?BQ195 ?FQ195 ?XQ195 ?NQ195 ?TQ195 ?hTQ195 ?hBQ195 ?e1Q195 ?e2Q195 (LikeAt.cons (LikeAt.cons (like_all ?hLQ195) ?u1Q195 ?u2Q195) ?u3Q195 ?u4Q195) ?hm1Q195 ?hm2Q195 ?hi1Q195 ?hi2Q195 ?hcTQ195 ?hcBQ195 ?haQ195 ?hbQ195 ?hd1Q195 ?hu1Q195 ?_; (case hfQ195 => rfl); (case hkQ195 => first | rfl | assumption); (case BQ195 => k_asm); (case FQ195 => k_asm); (case XQ195 => k_in); (case NQ195 => k_asm); (case TQ195 => k_asm); (case hLQ195 => with_reducible assumption); (case e1Q195 => tbn_lt); (case e2Q195 => tbn_lt); (case u1Q195 => exact q_ne (by with_reducible assumption) (by k_mem)); (case u2Q195 => exact q_ne (by with_reducible assumption) (by k_mem)); (case u3Q195 => exact q_ne (by with_reducible assumption) (by k_mem)); (case u4Q195 => exact q_ne (by with_reducible assumption) (by k_mem)); (case hm1Q195 => k_mem); (case hm2Q195 => k_mem); (case hTQ195 => with_reducible assumption); (case hBQ195 => with_reducible assumption); (case hi1Q195 => with_reducible assumption); (case hi2Q195 => with_reducible assumption); (case hcTQ195 => with_reducible assumption); (case hcBQ195 => with_reducible assumption); (case haQ195 => with_reducible assumption); (case hbQ195 => with_reducible assumption); (case hd1Q195 => k_room); (case hu1Q195 => ke_room)); intro oT'ZZ oB'ZZ h'ZZ tk'ZZ F'ZZ N'ZZ hT'ZZ; (try k_sweep)))
  k_with "my call ref" => ((k_here; (with_reducible show wpAny _ _ (call (Value.ref 760) [_, _, _]) _ _ _); k_dflt (refine' all_use ?hfQ196 ?hkQ196 ?BQ196 ?FQ196 ?XQ196 ?NQ196 ?TQ196 ?hTQ196 ?hBQ196 ?e1Q196 ?e2Q196 (like_all ?hLQ196) ?hm1Q196 ?hm2Q196 ?hi1Q196 ?hi2Q196 ?hcTQ196 ?hcBQ196 ?haQ196 ?hbQ196 ?hd1Q196 ?hu1Q196 ?_; (case hfQ196 => rfl); (case hkQ196 => first | rfl | assumption); (case BQ196 => k_asm); (case FQ196 => k_asm); (case XQ196 => k_in); (case NQ196 => k_asm); (case TQ196 => k_asm); (case hLQ196 => with_reducible assumption); (case e1Q196 => tbn_lt); (case e2Q196 => tbn_lt); (case hm1Q196 => k_mem); (case hm2Q196 => k_mem); (case hTQ196 => with_reducible assumption); (case hBQ196 => with_reducible assumption); (case hi1Q196 => with_reducible assumption); (case hi2Q196 => with_reducible assumption); (case hcTQ196 => with_reducible assumption); (case hcBQ196 => with_reducible assumption); (case haQ196 => with_reducible assumption); (case hbQ196 => with_reducible assumption); (case hd1Q196 => k_room); (case hu1Q196 => ke_room)); intro oT'ZZ oB'ZZ h'ZZ tk'ZZ F'ZZ N'ZZ hT'ZZ; (try k_sweep)))
  trivial
theorem heads_spec (prog : Program) (w : World) (h h' : KH) (a a' d d' : Nat) (o o' : Obj) (vs vs' : List Value) (x y dx dy dT dB eT eB : Nat) (t1 t2 t3 t4 : Tok) (oT oB pT pB : Obj) (S : LS) (rest : List (Addr × Obj))
    (hk : h'.kind = h.kind) (hm : (a, instObj h.cls d) ∈ rest) (ho : (d, o) ∈ rest) (hf : FldIn w.params rest h o vs) (hm' : (a', instObj h'.cls d') ∈ rest) (ho' : (d', o') ∈ rest) (hf' : FldIn w.params rest h' o' vs') (hr : ∀ v ∈ vs, ∃ c : Nat, v = .ref c) (hr' : ∀ v ∈ vs', ∃ c : Nat, v = .ref c)
    (hn : LikeAt prog w x dx dT dB t1 t2 rest) (hl : LikeAt prog w y dy eT eB t3 t4 rest) (n1 : eT ≠ dT) (n2 : eT ≠ dB) (n3 : eB ≠ dT) (n4 : eB ≠ dB) (hS : LikeDicts prog w oT oB pT pB S) (hT : S.T.length ≤ 850) (hB : S.K.length ≤ 850) (hU : S.U.length ≤ 850) (hV : S.V.length ≤ 850) :
    CallsTo prog w (hd.heap_1 w.params) 774 [.ref a, .ref a', .ref x, .ref y] ((dT, oT) :: (dB, oB) :: (eT, pT) :: (eB, pB) :: rest) 40 1500 (HeadsPost prog w dT dB eT eB h h' S rest) := by
  have hfill9 : PySem.Challenge.rw_on0297_01 = PySem.Challenge.rw_on0297_01 ∧ hd.heap_1 = hd.heap_1 := by
    k_fill
    exact ⟨rfl, rfl⟩
  clear hfill9
  have hS0 := hS
  have tw9 : TwoAt w.params rest h h' a a' d d' o o' vs vs' := ⟨hk, hm, ho, hf, hm', ho', hf', hr, hr'⟩
  obtain ⟨hS1, hS2, hS3, hS4⟩ := hS
  have hn2 := hn.two n1 n2 n3 n4
  have hl2 := hl.two (Ne.symm n1) (Ne.symm n3) (Ne.symm n2) (Ne.symm n4)
  have hx1 := hn.inst
  have hx2 := hn.dict
  have hy1 := hl.inst
  have hy2 := hl.dict
  rintro p loose mean mg mb dp un gd ⟨⟨_, nm, ig, ic, mo⟩, lo, gl, ce, qu, fu, co, _, bu⟩ outer A₀ base h₀ L m s Q E rfl rfl B F X N T hd1 hu1 hret
  refine wpAny_call ?_
  k_dflt k_enter
  refine let_env ?_
  intro env9
  k_steps
  · refine Stop.into ?_
    have mk8 := Mk3.mk
    refine el_const tw9 (by with_reducible assumption) ?_
    clear tw9 hm ho hf hm' ho' hf'
    intro k1 k2 v1 v2 u1 u2 eh eh' g1 g2 g3 g4 hv1 hv2
    have hd1 := const_handed hv1
    have hd2 := const_handed hv2
    k_steps
    (rename Fr h₀ L _ m => F9); (rename News h₀ L _ _ => N9)
    exact hret _ _ _ _ F9 N9 (by rw [eh, eh']; exact hp_atom rfl hS0)
  · refine Stop.into ?_
    have mk8 := Mk3.mk
    refine el_loc tw9 (by with_reducible assumption) ?_ ?_
    · clear tw9 hm ho hf hm' ho' hf'
      intro k1 k2 t6 t7 u1 u2 eh eh' g1 g2 g3 g4
      k_steps
      (rename Fr h₀ L _ m => F9); (rename News h₀ L _ _ => N9)
      exact hret _ _ _ _ F9 N9 (by rw [eh, eh']; exact hp_goes rfl (by with_reducible assumption) (by with_reducible assumption) hS3 hS4)
    · clear tw9 hm ho hf hm' ho' hf'
      intro k1 k2 c1 c2 t6 t7 u1 u2 u3 u4 eh eh' g1 g2 g3 g4
      k_steps
      (rename Fr h₀ L _ m => F9); (rename News h₀ L _ _ => N9)
      exact hret _ _ _ _ F9 N9 (by rw [eh, eh']; exact hp_goes rfl (by with_reducible assumption) (by with_reducible assumption) hS3 hS4)
  · refine Stop.into ?_
    have mk8 := Mk3.mk
    refine el_glob tw9 (by with_reducible assumption) ?_ ?_ ?_
    · clear tw9 hm ho hf hm' ho' hf'
      intro k1 k2 t6 t7 u1 u2 eh eh' g1 g2 g3 g4
      k_steps
      (rename Fr h₀ L _ m => F9); (rename News h₀ L _ _ => N9)
      exact hret _ _ _ _ F9 N9 (by rw [eh, eh']; exact hp_atomB rfl hS0)
    · clear tw9 hm ho hf hm' ho' hf'
      intro k1 k2 c1 c2 t6 t7 u1 u2 u3 u4 eh eh' g1 g2 g3 g4
      k_steps
      (rename Fr h₀ L _ m => F9); (rename News h₀ L _ _ => N9)
      exact hret _ _ _ _ F9 N9 (by rw [eh, eh']; exact hp_atomB rfl hS0)
    · clear tw9 hm ho hf hm' ho' hf'
      intro k1 k2 c1 c2 t6 t7 u1 u2 u3 u4 eh eh' g1 g2 g3 g4
      k_steps
      (rename Fr h₀ L _ m => F9); (rename News h₀ L _ _ => N9)
      exact hret _ _ _ _ F9 N9 (by rw [eh, eh']; exact hp_atomB rfl hS0)
  · refine Stop.into ?_
    have mk8 := Mk3.mk
    refine el_prim tw9 (by with_reducible assumption) ?_
    clear tw9 hm ho hf hm' ho' hf'
    intro k1 k2 q1 q2 t6 t7 u1 u2 u3 u4 eh eh' g1 g2 g3 g4
    k_steps
    (rename Fr h₀ L _ m => F9); (rename News h₀ L _ _ => N9)
    exact hret _ _ _ _ F9 N9 (by rw [eh, eh']; exact hp_atomB rfl hS0)
  · refine Stop.into ?_
    have mk8 := Mk3.mk
    refine el_lam tw9 (by with_reducible assumption) ?_
    clear tw9 hm ho hf hm' ho' hf'
    intro k1 ps1 r1 k2 ps2 r2 c1 c2 q1 q2 m1 m2 us1 us2 a1 a2 a3 a4 a5 a6 b1 b2 b3 b4 b5 b6 eh eh' g1 g2 g3 g4 hq1 hq2 hz3 hz4 hi3 hi4 hz5 hz6
    k_steps
    · (rename Fr h₀ L _ m => F9); (rename News h₀ L _ _ => N9)
      exact hret _ _ _ _ F9 N9 (by rw [eh, eh']; exact hp_none (lam_none1 (beq_of_bne (by with_reducible assumption))))
    · (rename Fr h₀ L _ m => F9); (rename News h₀ L _ _ => N9)
      exact hret _ _ _ _ F9 (news_drop2 N9) (by rw [eh, eh']; exact hp_lam (beq_of_bne (by with_reducible assumption)) (by with_reducible assumption) (by with_reducible assumption) (by with_reducible assumption) (by with_reducible assumption))
    · (rename Fr h₀ L _ m => F9); (rename News h₀ L _ _ => N9)
      exact hret _ _ _ _ F9 (news_perm N9) (by rw [eh, eh']; exact hp_none (lam_none2 (by with_reducible assumption)))
  · (rename Fr h₀ L _ m => F9); (rename News h₀ L _ _ => N9)
    exact hret _ _ _ _ F9 N9 (hp_rest (by with_reducible assumption) (two_rest (by with_reducible assumption) (by with_reducible assumption) (by with_reducible assumption) (by with_reducible assumption) (by with_reducible assumption) (by with_reducible assumption) hk) hS0)
  · refine Stop.into ?_
    have mk8 := Mk3.mk
    have hz5 : ∀ k : Int, [k].length ≤ 50 := fun _ => by show 1 ≤ 50; decide
    refine el_fix tw9 (by with_reducible assumption) ?_
    clear tw9 hm ho hf hm' ho' hf'
    intro k1 k2 c1 c2 q1 q2 q3 q4 m1 m2 us1 us2 a1 a2 a3 b1 b2 b3 eh eh' g1 g2 g3 g4 hq1 hq2 hi1 hi2
    have hz6 := hz5 k1
    have hz7 := hz5 k2
    k_steps
    (rename Fr h₀ L _ m => F9); (rename News h₀ L _ _ => N9)
    exact hret _ _ _ _ F9 N9 (by rw [eh, eh']; exact hp_fix (by with_reducible assumption) hS3 hS4)
end
section
set_option maxHeartbeats 1000000
theorem kw51 : True := by
  k_with_none
  k_with "ke_room" => (first | ((have hcL9ZZ := cLine_is; simp only [units_in1, units_deeper, Around.mark_units, units_caller]; (try dsimp only [arTop]); omega)) | fail)
  k_with "k_units" => (first | (ke_room) | fail)
  k_with "units_room" => (first | (ke_room) | fail)
  k_with "k_room" => (first | (((try simp only [depth_under_make, depth_under_kw, depth_in1, depth_deeper, depth_caller]); (try dsimp only [arTop]); (try simp only [recursionLimit]); omega)) | fail)
  k_with "ktr_room" => (first | (k_room) | fail)
  k_with "ktr_member" => (first | (first | exact allLt_ne (by with_reducible assumption) | exact allLt_ne1 (by with_reducible assumption) | exact allLt_ne2 (by with_reducible assumption) | exact off3_I (by with_reducible assumption) | exact off3_C (by with_reducible assumption) | exact off3_D (by with_reducible assumption) | exact off1_D (by with_reducible assumption)) | fail)
  k_with "k_ne" => (first | ((refine neN ?_; (try dsimp only); first | with_reducible assumption | exact Ne.symm (by with_reducible assumption) | exact Nat.ne_of_lt (by with_reducible assumption) | exact Nat.ne_of_gt (by with_reducible assumption) | omega)) | fail)
  k_with "kst_all" => (first | (first | with_reducible assumption | ktr_member | exact off_app (by first | with_reducible assumption | ktr_member) | exact off_app (off_app (by first | with_reducible assumption | ktr_member)) | exact off_app (off_app (off_app (by first | with_reducible assumption | ktr_member)))) | fail)
  k_with "kst_mem" => (first | ((refine' fil_mem ?aQ9 ?bQ9; (case aQ9 => k_mem); (case bQ9 => k_all))) | fail)
  k_with "kst_p" => (first | ((refine' fil_tree ?aQ10 ?bQ10 ?cQ10; (case aQ10 => with_reducible assumption); (case bQ10 => tb_start); (case cQ10 => exact fr_tl (by with_reducible assumption) (by with_reducible assumption) (by with_reducible assumption) (by with_reducible assumption) (by tb_start)))) | fail)
  k_with "k_all" => (first | (first | exact List.forall_mem_nil _ | (refine' List.forall_mem_cons.mpr ⟨?aQ11, ?bQ11⟩; (case aQ11 => k_ne); (case bQ11 => k_all)) | kst_all) | fail)
  k_with "lcg_off" => (first | (first | exact True.intro | (refine And.intro ⟨?aQ12, ?bQ12, ?cQ12⟩ ?dQ12; (case aQ12 => k_ne); (case bQ12 => k_ne); (case cQ12 => k_ne); (case dQ12 => lcg_off)) | with_reducible assumption | exact off3_of (by first | with_reducible assumption | ktr_member) (by first | with_reducible assumption | ktr_member) (by first | with_reducible assumption | ktr_member)) | fail)
  k_with "tb_rel" => (first | (first | with_reducible assumption | (refine List.mem_cons_of_mem _ ?_; tb_rel) | (refine List.mem_append.mpr (Or.inr ?_); tb_rel) | (refine List.mem_append.mpr (Or.inl ?_); tb_rel)) | fail)
  k_with "tb_start" => (first | ((intro p9ZZ hp9ZZ; tb_rel)) | fail)
  k_with "tbn_lt" => (first | (first | exact Ext.head | (refine' Ext.tail ?aQ15; (case aQ15 => tbn_lt))) | fail)
  k_with "tbn_below" => (first | (first | (refine' Split.cons ?aQ16; (case aQ16 => tbn_below)) | exact Split.base) | fail)
  k_with "tbn_conj" => (first | (first | exact True.intro | (refine' And.intro ?aQ17 ?bQ17; (case aQ17 => first | with_reducible assumption | ktr_member); (case bQ17 => tbn_conj))) | fail)
  k_with "my ite" => ((k_closed; first | (refine' iteBT ?p9Q18 ?_; (case p9Q18 => decide)) | (refine' iteBF ?p9Q18 ?_; (case p9Q18 => decide))))
  k_with "my CompEnd" => ((k_here; k_dflt (refine' comp_end ?FQ19 ?NQ19 ?e1Q19 ?e2Q19 ?e3Q19 ?offQ19 ?_; (case FQ19 => k_asm); (case NQ19 => k_asm); (case e1Q19 => tbn_lt); (case e2Q19 => tbn_lt); (case e3Q19 => tbn_lt); (case offQ19 => lcg_off))))
  k_with "my CompSrc" => ((k_here; k_dflt (refine LCg.CompSrc.range (by rfl) (by k_asm) (by k_asm) (by assumption) (by first | decide | rfl) (by first | rfl | decide) (by first | size_fits | exact Nat.le_of_ble_eq_true rfl) ?_; intro g'ZZ; lcg_lit)))
  k_with "my CompRest" => ((with_unfolding_all first | (refine LCg.CompRest.succ ?_; intro v'ZZ I'ZZ oI'ZZ C'ZZ oC'ZZ D'ZZ m'ZZ h'ZZ tk'ZZ E'ZZ hv'ZZ hC'ZZ hx'ZZ F'ZZ N'ZZ off'ZZ ne'ZZ; (first | lcg_open hv'ZZ | (obtain ⟨t9'ZZ, hv9'ZZ⟩ := hv'ZZ; subst hv9'ZZ)); (try dsimp only [LCg.Off3] at off'ZZ); (refine let_goal ?_); intro G9ZZ; (repeat (with_reducible obtain ⟨⟨_, _, _⟩, off'ZZ⟩ := off'ZZ)); (obtain ⟨_, _, _⟩ := ne'ZZ); k_unfold; clear G9ZZ) | refine LCg.CompRest.zero ?_))
  k_with "my FinE" => (((unfold LCg.FinE); intro D'ZZ h'ZZ tk'ZZ F'ZZ N'ZZ o1'ZZ; (try dsimp only [LCg.Off1] at o1'ZZ); (refine let_goal ?_); intro G9ZZ; (repeat (with_reducible obtain ⟨_, o1'ZZ⟩ := o1'ZZ)); k_unfold; clear G9ZZ; (try simp only [List.nil_append, List.cons_append] at N'ZZ); (try dsimp only)))
  trivial
section
variable {prog : Program} {w : World} {p : Program} {loose : List Str} {mean : ExcName → Option Value} {mg mb : Str → Option Value} {dp un : Nat} {gd : Option (List Code)} {env : Env} {outer : List Env} {A₀ : Around} {base h₀ : Heap} {L : Addr} {m : Str → Option Value} {s : Shared} {Q E : Value → Shared → Prop} {l l1 l2 l3 rest : List (Addr × Obj)}
theorem heads_use {h h' : KH} {a a' d d' : Nat} {o o' : Obj} {vs vs' : List Value} {x y dx dy dT dB eT eB : Nat} {t1 t2 t3 t4 : Tok} {oT oB pT pB : Obj} {S : LS}
    (hf : env.frame = some L) (hk : env.scope.kind = .function) (B : Below A₀ base outer h₀) (F : Fr h₀ L s.heap m) (X : (hd.heap_1 w.params).In h₀) (N : News h₀ L s.heap l) (T : Top p loose mean mg mb h₀)
    (hn : LikeAt prog w x dx dT dB t1 t2 rest) (hl : LikeAt prog w y dy eT eB t3 t4 rest) (e1 : Ext (dT, oT) l l1) (e2 : Ext (dB, oB) l1 l2) (e3 : Ext (eT, pT) l2 l3) (e4 : Ext (eB, pB) l3 rest)
    (n1 : eT ≠ dT) (n2 : eT ≠ dB) (n3 : eB ≠ dT) (n4 : eB ≠ dB) (hS : LikeDicts prog w oT oB pT pB S) (hT : S.T.length ≤ 850) (hB : S.K.length ≤ 850) (hU : S.U.length ≤ 850) (hV : S.V.length ≤ 850)
    (hkk : h'.kind = h.kind) (hm : (a, instObj h.cls d) ∈ rest) (ho : (d, o) ∈ rest) (hfl : FldIn w.params rest h o vs) (hm' : (a', instObj h'.cls d') ∈ rest) (ho' : (d', o') ∈ rest) (hfl' : FldIn w.params rest h' o' vs') (hr : ∀ v ∈ vs, ∃ c : Nat, v = .ref c) (hr' : ∀ v ∈ vs', ∃ c : Nat, v = .ref c)
    (hd1 : dp + 40 < 1000) (hu1 : un + 1500 < 9900)
    (ret : ∀ oT oB pT pB h2 tk', Fr h₀ L h2 m → News h₀ L h2 ((dT, oT) :: (dB, oB) :: (eT, pT) :: (eB, pB) :: rest) → (∀ S', alike h h' S = some S' → LikeDicts prog w oT oB pT pB S') → Q (.bool (alike h h' S).isSome) { s with heap := h2, toks := tk' }) :
    wpAny (model prog w) (arTop dp un gd env outer) (call (.ref 774) [.ref a, .ref a', .ref x, .ref y]) Q E s := by
  have N1 : News h₀ L s.heap l1 := fun p hp => e1.news N p (.tail _ hp)
  have N2 : News h₀ L s.heap l2 := fun p hp => e2.news N1 p (.tail _ hp)
  have N3 : News h₀ L s.heap l3 := fun p hp => e3.news N2 p (.tail _ hp)
  have N4 : News h₀ L s.heap ((dT, oT) :: (dB, oB) :: (eT, pT) :: (eB, pB) :: rest) := by
    refine news_cons N ((e1.mem _).mpr (.inl rfl)) (news_cons N1 ((e2.mem _).mpr (.inl rfl)) (news_cons N2 ((e3.mem _).mpr (.inl rfl)) (e4.news N3)))
  refine heads_spec prog w h h' a a' d d' o o' vs vs' x y dx dy dT dB eT eB t1 t2 t3 t4 oT oB pT pB S rest hkk hm ho hfl hm' ho' hfl' hr hr' hn hl n1 n2 n3 n4 hS hT hB hU hV _ _ _ _ _ _ _ _ _ _ _ _ _ _ _ _ _ _ hf hk B F X N4 T hd1 hu1 ?_
  rintro r news' h2 tk' F' N' ⟨oT', oB', pT', pB', rfl, rfl, h1⟩
  exact ret oT' oB' pT' pB' h2 tk' F' N' h1
end
end
section
set_option maxHeartbeats 1000000
theorem kw53 : True := by
  k_with_none
  k_with "ke_room" => (first | ((have hcL9ZZ := cLine_is; simp only [units_in1, units_deeper, Around.mark_units, units_caller]; (try dsimp only [arTop]); omega)) | fail)
  k_with "k_units" => (first | (ke_room) | fail)
  k_with "units_room" => (first | (ke_room) | fail)
  k_with "k_room" => (first | (((try simp only [depth_under_make, depth_under_kw, depth_in1, depth_deeper, depth_caller]); (try dsimp only [arTop]); (try simp only [recursionLimit]); omega)) | fail)
  k_with "ktr_room" => (first | (k_room) | fail)
  k_with "ktr_member" => (first | (first | exact allLt_ne (by with_reducible assumption) | exact allLt_ne1 (by with_reducible assumption) | exact allLt_ne2 (by with_reducible assumption) | exact off3_I (by with_reducible assumption) | exact off3_C (by with_reducible assumption) | exact off3_D (by with_reducible assumption) | exact off1_D (by with_reducible assumption)) | fail)
  k_with "k_ne" => (first | ((refine neN ?_; (try dsimp only); first | with_reducible assumption | exact Ne.symm (by with_reducible assumption) | exact Nat.ne_of_lt (by with_reducible assumption) | exact Nat.ne_of_gt (by with_reducible assumption) | omega)) | fail)
  k_with "kst_all" => (first | (first | with_reducible assumption | ktr_member | exact off_app (by first | with_reducible assumption | ktr_member) | exact off_app (off_app (by first | with_reducible assumption | ktr_member)) | exact off_app (off_app (off_app (by first | with_reducible assumption | ktr_member)))) | fail)
  k_with "kst_mem" => (first | ((refine' fil_mem ?aQ9 ?bQ9; (case aQ9 => k_mem); (case bQ9 => k_all))) | fail)
  k_with "kst_p" => (first | ((refine' fil_tree ?aQ10 ?bQ10 ?cQ10; (case aQ10 => with_reducible assumption); (case bQ10 => tb_start); (case cQ10 => exact fr_tl (by with_reducible assumption) (by with_reducible assumption) (by with_reducible assumption) (by with_reducible assumption) (by tb_start)))) | fail)
  k_with "k_all" => (first | (first | exact List.forall_mem_nil _ | (refine' List.forall_mem_cons.mpr ⟨?aQ11, ?bQ11⟩; (case aQ11 => k_ne); (case bQ11 => k_all)) | kst_all) | fail)
  k_with "lcg_off" => (first | (first | exact True.intro | (refine And.intro ⟨?aQ12, ?bQ12, ?cQ12⟩ ?dQ12; (case aQ12 => k_ne); (case bQ12 => k_ne); (case cQ12 => k_ne); (case dQ12 => lcg_off)) | with_reducible assumption | exact off3_of (by first | with_reducible assumption | ktr_member) (by first | with_reducible assumption | ktr_member) (by first | with_reducible assumption | ktr_member)) | fail)
  k_with "tb_rel" => (first | (first | with_reducible assumption | (refine List.mem_cons_of_mem _ ?_; tb_rel) | (refine List.mem_append.mpr (Or.inr ?_); tb_rel) | (refine List.mem_append.mpr (Or.inl ?_); tb_rel)) | fail)
  k_with "tb_start" => (first | ((intro p9ZZ hp9ZZ; tb_rel)) | fail)
  k_with "tbn_lt" => (first | (first | exact Ext.head | (refine' Ext.tail ?aQ15; (case aQ15 => tbn_lt))) | fail)
  k_with "tbn_below" => (first | (first | (refine' Split.cons ?aQ16; (case aQ16 => tbn_below)) | exact Split.base) | fail)
  k_with "tbn_conj" => (first | (first | exact True.intro | (refine' And.intro ?aQ17 ?bQ17; (case aQ17 => first | with_reducible assumption | ktr_member); (case bQ17 => tbn_conj))) | fail)
  k_with "my ite" => ((k_closed; first | (refine' iteBT ?p9Q18 ?_; (case p9Q18 => decide)) | (refine' iteBF ?p9Q18 ?_; (case p9Q18 => decide))))
  k_with "my CompEnd" => ((k_here; k_dflt (refine' comp_end ?FQ19 ?NQ19 ?e1Q19 ?e2Q19 ?e3Q19 ?offQ19 ?_; (case FQ19 => k_asm); (case NQ19 => k_asm); (case e1Q19 => tbn_lt); (case e2Q19 => tbn_lt); (case e3Q19 => tbn_lt); (case offQ19 => lcg_off))))
  k_with "my CompSrc" => ((k_here; k_dflt (refine LCg.CompSrc.range (by rfl) (by k_asm) (by k_asm) (by assumption) (by first | decide | rfl) (by first | rfl | decide) (by first | size_fits | exact Nat.le_of_ble_eq_true rfl) ?_; intro g'ZZ; lcg_lit)))
  k_with "my CompRest" => ((with_unfolding_all first | (refine LCg.CompRest.succ ?_; intro v'ZZ I'ZZ oI'ZZ C'ZZ oC'ZZ D'ZZ m'ZZ h'ZZ tk'ZZ E'ZZ hv'ZZ hC'ZZ hx'ZZ F'ZZ N'ZZ off'ZZ ne'ZZ; (first | lcg_open hv'ZZ | (obtain ⟨t9'ZZ, hv9'ZZ⟩ := hv'ZZ; subst hv9'ZZ)); (try dsimp only [LCg.Off3] at off'ZZ); (refine let_goal ?_); intro G9ZZ; (repeat (with_reducible obtain ⟨⟨_, _, _⟩, off'ZZ⟩ := off'ZZ)); (obtain ⟨_, _, _⟩ := ne'ZZ); k_unfold; clear G9ZZ) | refine LCg.CompRest.zero ?_))
  k_with "my FinE" => (((unfold LCg.FinE); intro D'ZZ h'ZZ tk'ZZ F'ZZ N'ZZ o1'ZZ; (try dsimp only [LCg.Off1] at o1'ZZ); (refine let_goal ?_); intro G9ZZ; (repeat (with_reducible obtain ⟨_, o1'ZZ⟩ := o1'ZZ)); k_unfold; clear G9ZZ; (try simp only [List.nil_append, List.cons_append] at N'ZZ); (try dsimp only)))
  trivial
noncomputable def KH.small : KH → Prop
  | .lam _ ps _ => ps.length ≤ 3
  | _ => True
theorem fld_small {P : Params} {news : List (Addr × Obj)} {h : KH} {o : Obj} {vs : List Value} (hf : FldIn P news h o vs) : h.small := by
  cases h with
  | lam l ps r => obtain ⟨c, q, us, n, t, u, t1, t2, t3, t4, _, _, _, h1, _⟩ := hf; exact h1
  | _ => trivial
noncomputable def LS.fits (S : LS) (n : Nat) : Prop := S.T.length ≤ n ∧ S.K.length ≤ n ∧ S.U.length ≤ n ∧ S.V.length ≤ n
theorem bnd_len4 {ps : List Int} {r : Int} (h : ps.length ≤ 3) : (bnd ps r).length ≤ 4 := by
  unfold bnd; rw [List.length_append]; split <;> simp <;> omega
theorem ite_some {α : Type} {c : Prop} [Decidable c] {a b : α} (e : (if c then some a else none) = some b) : b = a := by
  split at e
  · exact (Option.some.inj e).symm
  · cases e
/-- what two heads alike have made of the tables -/
theorem alike_cases {h h' : KH} {S S' : LS} (e : alike h h' S = some S') : h.kind = h'.kind ∧ (S' = S ∨ (∃ n n', S' = { S with T := goesT S.T S.K n n', K := goesK S.T S.K n n' }) ∨
    (∃ l ps r l' ps' r', h = .lam l ps r ∧ S' = ⟨(goT (bnd ps r) (bnd ps' r') S.T S.K).1, (goT (bnd ps r) (bnd ps' r') S.T S.K).2, goesT S.U S.V l l', goesK S.U S.V l l'⟩) ∨ ∃ n n', S' = { S with T := (goT [n] [n'] S.T S.K).1, K := (goT [n] [n'] S.T S.K).2 }) := by
  cases h with
  | const k =>
    cases h' with
    | const k' => exact ⟨rfl, .inl (ite_some e)⟩
    | _ => exact nomatch (show (none : Option LS) = some S' from e)
  | loc n =>
    cases h' with
    | loc n' => exact ⟨rfl, .inr (.inl ⟨_, _, ite_some e⟩)⟩
    | _ => exact nomatch (show (none : Option LS) = some S' from e)
  | glob k =>
    cases h' with
    | glob k' => exact ⟨rfl, .inl (ite_some e)⟩
    | _ => exact nomatch (show (none : Option LS) = some S' from e)
  | setl n =>
    cases h' with
    | setl n' => exact ⟨rfl, .inr (.inl ⟨_, _, ite_some e⟩)⟩
    | _ => exact nomatch (show (none : Option LS) = some S' from e)
  | setg k =>
    cases h' with
    | setg k' => exact ⟨rfl, .inl (ite_some e)⟩
    | _ => exact nomatch (show (none : Option LS) = some S' from e)
  | defn k =>
    cases h' with
    | defn k' => exact ⟨rfl, .inl (ite_some e)⟩
    | _ => exact nomatch (show (none : Option LS) = some S' from e)
  | iff =>
    cases h' with
    | iff => exact ⟨rfl, .inl (Option.some.inj e).symm⟩
    | _ => exact nomatch (show (none : Option LS) = some S' from e)
  | lam l ps r =>
    cases h' with
    | lam l' ps' r' => exact ⟨rfl, .inr (.inr (.inl ⟨_, _, _, _, _, _, rfl, ite_some e⟩))⟩
    | _ => exact nomatch (show (none : Option LS) = some S' from e)
  | call =>
    cases h' with
    | call => exact ⟨rfl, .inl (Option.some.inj e).symm⟩
    | _ => exact nomatch (show (none : Option LS) = some S' from e)
  | seq =>
    cases h' with
    | seq => exact ⟨rfl, .inl (Option.some.inj e).symm⟩
    | _ => exact nomatch (show (none : Option LS) = some S' from e)
  | prim k =>
    cases h' with
    | prim k' => exact ⟨rfl, .inl (ite_some e)⟩
    | _ => exact nomatch (show (none : Option LS) = some S' from e)
  | fix n =>
    cases h' with
    | fix n' => exact ⟨rfl, .inr (.inr (.inr ⟨_, _, ite_some e⟩))⟩
    | _ => exact nomatch (show (none : Option LS) = some S' from e)
theorem alike_fits {h h' : KH} {S S' : LS} {n : Nat} (hs : h.small) (e : alike h h' S = some S') (hn : S.fits n) : S'.fits (n + 4) := by
  obtain ⟨h1, h2, h3, h4⟩ := hn
  have up : ∀ {a c : Nat}, a ≤ n → c ≤ 4 → a + c ≤ n + 4 := fun ha hc => Nat.add_le_add ha hc
  have u0 : ∀ {a : Nat}, a ≤ n → a ≤ n + 4 := fun ha => Nat.le_trans ha (Nat.le_add_right _ _)
  have q : ∀ {a b c : Nat}, a ≤ b + c → b ≤ n → c ≤ 4 → a ≤ n + 4 := fun h hb hc => Nat.le_trans h (up hb hc)
  obtain ⟨_, rfl | ⟨m, m', rfl⟩ | ⟨l, ps, r, l', ps', r', rfl, rfl⟩ | ⟨m, m', rfl⟩⟩ := alike_cases e
  · exact ⟨u0 h1, u0 h2, u0 h3, u0 h4⟩
  · exact ⟨q goesT_len h1 (by decide), q goesK_len h2 (by decide), u0 h3, u0 h4⟩
  · exact ⟨q goT_len.1 h1 (bnd_len4 hs), q goT_len.2 h2 (bnd_len4 hs), q goesT_len h3 (by decide), q goesK_len h4 (by decide)⟩
  · exact ⟨q (goT_len (as := [m])).1 h1 (show 1 ≤ 4 by decide), q (goT_len (as := [m])).2 h2 (show 1 ≤ 4 by decide), u0 h3, u0 h4⟩
end
section
set_option maxHeartbeats 1000000
theorem kw55 : True := by
  k_with_none
  k_with "ke_room" => (first | ((have hcL9ZZ := cLine_is; simp only [units_in1, units_deeper, Around.mark_units, units_caller]; (try dsimp only [arTop]); omega)) | fail)
  k_with "k_units" => (first | (ke_room) | fail)
  k_with "units_room" => (first | (ke_room) | fail)
  k_with "k_room" => (first | (((try simp only [depth_under_make, depth_under_kw, depth_in1, depth_deeper, depth_caller]); (try dsimp only [arTop]); (try simp only [recursionLimit]); omega)) | fail)
  k_with "ktr_room" => (first | (k_room) | fail)
  k_with "ktr_member" => (first | (first | exact allLt_ne (by with_reducible assumption) | exact allLt_ne1 (by with_reducible assumption) | exact allLt_ne2 (by with_reducible assumption) | exact off3_I (by with_reducible assumption) | exact off3_C (by with_reducible assumption) | exact off3_D (by with_reducible assumption) | exact off1_D (by with_reducible assumption)) | fail)
  k_with "k_ne" => (first | ((refine neN ?_; (try dsimp only); first | with_reducible assumption | exact Ne.symm (by with_reducible assumption) | exact Nat.ne_of_lt (by with_reducible assumption) | exact Nat.ne_of_gt (by with_reducible assumption) | omega)) | fail)
  k_with "kst_all" => (first | (first | with_reducible assumption | ktr_member | exact off_app (by first | with_reducible assumption | ktr_member) | exact off_app (off_app (by first | with_reducible assumption | ktr_member)) | exact off_app (off_app (off_app (by first | with_reducible assumption | ktr_member)))) | fail)
  k_with "kst_mem" => (first | ((refine' fil_mem ?aQ9 ?bQ9; (case aQ9 => k_mem); (case bQ9 => k_all))) | fail)
  k_with "kst_p" => (first | ((refine' fil_tree ?aQ10 ?bQ10 ?cQ10; (case aQ10 => with_reducible assumption); (case bQ10 => tb_start); (case cQ10 => exact fr_tl (by with_reducible assumption) (by with_reducible assumption) (by with_reducible assumption) (by with_reducible assumption) (by tb_start)))) | fail)
  k_with "k_all" => (first | (first | exact List.forall_mem_nil _ | (refine' List.forall_mem_cons.mpr ⟨?aQ11, ?bQ11⟩; (case aQ11 => k_ne); (case bQ11 => k_all)) | kst_all) | fail)
  k_with "lcg_off" => (first | (first | exact True.intro | (refine And.intro ⟨?aQ12, ?bQ12, ?cQ12⟩ ?dQ12; (case aQ12 => k_ne); (case bQ12 => k_ne); (case cQ12 => k_ne); (case dQ12 => lcg_off)) | with_reducible assumption | exact off3_of (by first | with_reducible assumption | ktr_member) (by first | with_reducible assumption | ktr_member) (by first | with_reducible assumption | ktr_member)) | fail)
  k_with "tb_rel" => (first | (first | with_reducible assumption | (refine List.mem_cons_of_mem _ ?_; tb_rel) | (refine List.mem_append.mpr (Or.inr ?_); tb_rel) | (refine List.mem_append.mpr (Or.inl ?_); tb_rel)) | fail)
  k_with "tb_start" => (first | ((intro p9ZZ hp9ZZ; tb_rel)) | fail)
  k_with "tbn_lt" => (first | (first | exact Ext.head | (refine' Ext.tail ?aQ15; (case aQ15 => tbn_lt))) | fail)
  k_with "tbn_below" => (first | (first | (refine' Split.cons ?aQ16; (case aQ16 => tbn_below)) | exact Split.base) | fail)
  k_with "tbn_conj" => (first | (first | exact True.intro | (refine' And.intro ?aQ17 ?bQ17; (case aQ17 => first | with_reducible assumption | ktr_member); (case bQ17 => tbn_conj))) | fail)
  k_with "my ite" => ((k_closed; first | (refine' iteBT ?p9Q18 ?_; (case p9Q18 => decide)) | (refine' iteBF ?p9Q18 ?_; (case p9Q18 => decide))))
  k_with "my CompEnd" => ((k_here; k_dflt (refine' comp_end ?FQ19 ?NQ19 ?e1Q19 ?e2Q19 ?e3Q19 ?offQ19 ?_; (case FQ19 => k_asm); (case NQ19 => k_asm); (case e1Q19 => tbn_lt); (case e2Q19 => tbn_lt); (case e3Q19 => tbn_lt); (case offQ19 => lcg_off))))
  k_with "my CompSrc" => ((k_here; k_dflt (refine LCg.CompSrc.range (by rfl) (by k_asm) (by k_asm) (by assumption) (by first | decide | rfl) (by first | rfl | decide) (by first | size_fits | exact Nat.le_of_ble_eq_true rfl) ?_; intro g'ZZ; lcg_lit)))
  k_with "my CompRest" => ((with_unfolding_all first | (refine LCg.CompRest.succ ?_; intro v'ZZ I'ZZ oI'ZZ C'ZZ oC'ZZ D'ZZ m'ZZ h'ZZ tk'ZZ E'ZZ hv'ZZ hC'ZZ hx'ZZ F'ZZ N'ZZ off'ZZ ne'ZZ; (first | lcg_open hv'ZZ | (obtain ⟨t9'ZZ, hv9'ZZ⟩ := hv'ZZ; subst hv9'ZZ)); (try dsimp only [LCg.Off3] at off'ZZ); (refine let_goal ?_); intro G9ZZ; (repeat (with_reducible obtain ⟨⟨_, _, _⟩, off'ZZ⟩ := off'ZZ)); (obtain ⟨_, _, _⟩ := ne'ZZ); k_unfold; clear G9ZZ) | refine LCg.CompRest.zero ?_))
  k_with "my FinE" => (((unfold LCg.FinE); intro D'ZZ h'ZZ tk'ZZ F'ZZ N'ZZ o1'ZZ; (try dsimp only [LCg.Off1] at o1'ZZ); (refine let_goal ?_); intro G9ZZ; (repeat (with_reducible obtain ⟨_, o1'ZZ⟩ := o1'ZZ)); k_unfold; clear G9ZZ; (try simp only [List.nil_append, List.cons_append] at N'ZZ); (try dsimp only)))
  trivial
/-- the waiting list, its top first: pairs of nodes -/
noncomputable def WaitIn (P : Params) (news : List (Addr × Obj)) : List Value → List (K × K) → Prop
  | rs, [] => rs = []
  | rs, (k, k') :: ps => ∃ t a a' n r, rs = .ref t :: r ∧ (t, tup [.ref a, .ref a'] n) ∈ news ∧ NodeIn P news k (.ref a) ∧ NodeIn P news k' (.ref a') ∧ WaitIn P news r ps
section
variable {P : Params} {news news' : List (Addr × Obj)}
theorem WaitIn.mono (hs : ∀ p ∈ news, p ∈ news') : ∀ {rs : List Value} {ps : List (K × K)}, WaitIn P news rs ps → WaitIn P news' rs ps
  | _, [], h => h
  | _, (k, k') :: ps, h => by
    obtain ⟨t, a, a', n, r, rfl, h1, h2, h3, h4⟩ := h
    exact ⟨t, a, a', n, r, rfl, hs _ h1, NodeIn.mono hs _ _ h2, NodeIn.mono hs _ _ h3, h4.mono hs⟩
theorem WaitIn.length : ∀ {rs : List Value} {ps : List (K × K)}, WaitIn P news rs ps → rs.length = ps.length
  | _, [], h => by rw [show _ = [] from h]; rfl
  | _, (k, k') :: ps, h => by
    obtain ⟨t, a, a', n, r, rfl, _, _, _, h4⟩ := h
    rw [List.length_cons, List.length_cons, h4.length]
end
theorem kl_last_snoc (p : List Value) (y : Value) : kl_last (p ++ [y]) = some (p, y) := by
  induction p with
  | nil => rfl
  | cons a p ih =>
    cases p with
    | nil => rfl
    | cons b p => rw [List.cons_append, List.cons_append, kl_last, ← List.cons_append, ih]
end
section
set_option maxHeartbeats 1000000
theorem kw57 : True := by
  k_with_none
  k_with "ke_room" => (first | ((have hcL9ZZ := cLine_is; simp only [units_in1, units_deeper, Around.mark_units, units_caller]; (try dsimp only [arTop]); omega)) | fail)
  k_with "k_units" => (first | (ke_room) | fail)
  k_with "units_room" => (first | (ke_room) | fail)
  k_with "k_room" => (first | (((try simp only [depth_under_make, depth_under_kw, depth_in1, depth_deeper, depth_caller]); (try dsimp only [arTop]); (try simp only [recursionLimit]); omega)) | fail)
  k_with "ktr_room" => (first | (k_room) | fail)
  k_with "ktr_member" => (first | (first | exact allLt_ne (by with_reducible assumption) | exact allLt_ne1 (by with_reducible assumption) | exact allLt_ne2 (by with_reducible assumption) | exact off3_I (by with_reducible assumption) | exact off3_C (by with_reducible assumption) | exact off3_D (by with_reducible assumption) | exact off1_D (by with_reducible assumption)) | fail)
  k_with "k_ne" => (first | ((refine neN ?_; (try dsimp only); first | with_reducible assumption | exact Ne.symm (by with_reducible assumption) | exact Nat.ne_of_lt (by with_reducible assumption) | exact Nat.ne_of_gt (by with_reducible assumption) | omega)) | fail)
  k_with "kst_all" => (first | (first | with_reducible assumption | ktr_member | exact off_app (by first | with_reducible assumption | ktr_member) | exact off_app (off_app (by first | with_reducible assumption | ktr_member)) | exact off_app (off_app (off_app (by first | with_reducible assumption | ktr_member)))) | fail)
  k_with "kst_mem" => (first | ((refine' fil_mem ?aQ9 ?bQ9; (case aQ9 => k_mem); (case bQ9 => k_all))) | fail)
  k_with "kst_p" => (first | ((refine' fil_tree ?aQ10 ?bQ10 ?cQ10; (case aQ10 => with_reducible assumption); (case bQ10 => tb_start); (case cQ10 => exact fr_tl (by with_reducible assumption) (by with_reducible assumption) (by with_reducible assumption) (by with_reducible assumption) (by tb_start)))) | fail)
  k_with "k_all" => (first | (first | exact List.forall_mem_nil _ | (refine' List.forall_mem_cons.mpr ⟨?aQ11, ?bQ11⟩; (case aQ11 => k_ne); (case bQ11 => k_all)) | kst_all) | fail)
  k_with "lcg_off" => (first | (first | exact True.intro | (refine And.intro ⟨?aQ12, ?bQ12, ?cQ12⟩ ?dQ12; (case aQ12 => k_ne); (case bQ12 => k_ne); (case cQ12 => k_ne); (case dQ12 => lcg_off)) | with_reducible assumption | exact off3_of (by first | with_reducible assumption | ktr_member) (by first | with_reducible assumption | ktr_member) (by first | with_reducible assumption | ktr_member)) | fail)
  k_with "tb_rel" => (first | (first | with_reducible assumption | (refine List.mem_cons_of_mem _ ?_; tb_rel) | (refine List.mem_append.mpr (Or.inr ?_); tb_rel) | (refine List.mem_append.mpr (Or.inl ?_); tb_rel)) | fail)
  k_with "tb_start" => (first | ((intro p9ZZ hp9ZZ; tb_rel)) | fail)
  k_with "tbn_lt" => (first | (first | exact Ext.head | (refine' Ext.tail ?aQ15; (case aQ15 => tbn_lt))) | fail)
  k_with "tbn_below" => (first | (first | (refine' Split.cons ?aQ16; (case aQ16 => tbn_below)) | exact Split.base) | fail)
  k_with "tbn_conj" => (first | (first | exact True.intro | (refine' And.intro ?aQ17 ?bQ17; (case aQ17 => first | with_reducible assumption | ktr_member); (case bQ17 => tbn_conj))) | fail)
  k_with "my ite" => ((k_closed; first | (refine' iteBT ?p9Q18 ?_; (case p9Q18 => decide)) | (refine' iteBF ?p9Q18 ?_; (case p9Q18 => decide))))
  k_with "my CompEnd" => ((k_here; k_dflt (refine' comp_end ?FQ19 ?NQ19 ?e1Q19 ?e2Q19 ?e3Q19 ?offQ19 ?_; (case FQ19 => k_asm); (case NQ19 => k_asm); (case e1Q19 => tbn_lt); (case e2Q19 => tbn_lt); (case e3Q19 => tbn_lt); (case offQ19 => lcg_off))))
  k_with "my CompSrc" => ((k_here; k_dflt (refine LCg.CompSrc.range (by rfl) (by k_asm) (by k_asm) (by assumption) (by first | decide | rfl) (by first | rfl | decide) (by first | size_fits | exact Nat.le_of_ble_eq_true rfl) ?_; intro g'ZZ; lcg_lit)))
  k_with "my CompRest" => ((with_unfolding_all first | (refine LCg.CompRest.succ ?_; intro v'ZZ I'ZZ oI'ZZ C'ZZ oC'ZZ D'ZZ m'ZZ h'ZZ tk'ZZ E'ZZ hv'ZZ hC'ZZ hx'ZZ F'ZZ N'ZZ off'ZZ ne'ZZ; (first | lcg_open hv'ZZ | (obtain ⟨t9'ZZ, hv9'ZZ⟩ := hv'ZZ; subst hv9'ZZ)); (try dsimp only [LCg.Off3] at off'ZZ); (refine let_goal ?_); intro G9ZZ; (repeat (with_reducible obtain ⟨⟨_, _, _⟩, off'ZZ⟩ := off'ZZ)); (obtain ⟨_, _, _⟩ := ne'ZZ); k_unfold; clear G9ZZ) | refine LCg.CompRest.zero ?_))
  k_with "my FinE" => (((unfold LCg.FinE); intro D'ZZ h'ZZ tk'ZZ F'ZZ N'ZZ o1'ZZ; (try dsimp only [LCg.Off1] at o1'ZZ); (refine let_goal ?_); intro G9ZZ; (repeat (with_reducible obtain ⟨_, o1'ZZ⟩ := o1'ZZ)); k_unfold; clear G9ZZ; (try simp only [List.nil_append, List.cons_append] at N'ZZ); (try dsimp only)))
  trivial
mutual
noncomputable def sameK : K → K → LS → Option LS
  | .node h ks, .node h' ks', S => match alike h h' S with
    | none => none
    | some S' => sameKs ks ks' S'
noncomputable def sameKs : List K → List K → LS → Option LS
  | [], [], S => some S
  | k :: ks, k' :: ks', S => match sameK k k' S with
    | none => none
    | some S' => sameKs ks ks' S'
  | [], _ :: _, _ => none
  | _ :: _, [], _ => none
end
/-- the waiting pairs are alike, from these tables -/
noncomputable def sameP : List (K × K) → LS → Bool
  | [], _ => true
  | (k, k') :: r, S => match sameK k k' S with
    | none => false
    | some S' => sameP r S'
theorem sameKs_len : ∀ {ks ks' : List K} {S S' : LS}, sameKs ks ks' S = some S' → ks.length = ks'.length
  | [], [], _, _, _ => rfl
  | k :: ks, k' :: ks', S, S', h => by
    rw [sameKs] at h
    split at h
    · cases h
    · rw [List.length_cons, List.length_cons, sameKs_len h]
  | [], _ :: _, _, _, h => by rw [sameKs] at h; cases h
  | _ :: _, [], _, _, h => by rw [sameKs] at h; cases h
theorem sameP_app : ∀ {ks ks' : List K} {r : List (K × K)} {S : LS}, ks.length = ks'.length → sameP (ks.zip ks' ++ r) S = match sameKs ks ks' S with | none => false | some S' => sameP r S'
  | [], [], r, S, _ => by rw [sameKs]; rfl
  | k :: ks, k' :: ks', r, S, h => by
    rw [List.zip_cons_cons, List.cons_append, sameP, sameKs]
    cases sameK k k' S with
    | none => rfl
    | some S' => exact sameP_app (Nat.succ.inj h)
  | [], _ :: _, _, _, h => by cases h
  | _ :: _, [], _, _, h => by cases h
theorem sameP_none {h h' : KH} {ks ks' : List K} {r : List (K × K)} {S : LS} (e : alike h h' S = none) : sameP ((.node h ks, .node h' ks') :: r) S = false := by
  rw [sameP, sameK, e]
theorem sameP_len {h h' : KH} {ks ks' : List K} {r : List (K × K)} {S S' : LS} (e : alike h h' S = some S') (hl : ks.length ≠ ks'.length) : sameP ((.node h ks, .node h' ks') :: r) S = false := by
  rw [sameP, sameK, e]
  dsimp only
  cases q : sameKs ks ks' S' with
  | none => rfl
  | some S'' => exact absurd (sameKs_len q) hl
theorem sameP_step {h h' : KH} {ks ks' : List K} {r : List (K × K)} {S S' : LS} (e : alike h h' S = some S') (hl : ks.length = ks'.length) : sameP ((.node h ks, .node h' ks') :: r) S = sameP (ks.zip ks' ++ r) S' := by
  rw [sameP, sameK, e, sameP_app hl]
theorem alike_kind {h h' : KH} {S : LS} (k : h'.kind ≠ h.kind) : alike h h' S = none := by
  cases q : alike h h' S with
  | none => rfl
  | some S' => exact absurd (alike_cases q).1.symm k
mutual
noncomputable def K.size : K → Nat
  | .node _ ks => K.sizes ks + 1
noncomputable def K.sizes : List K → Nat
  | [] => 0
  | k :: ks => k.size + K.sizes ks
end
/-- what remains to be done -/
noncomputable def left : List (K × K) → Nat
  | [] => 0
  | p :: r => p.1.size + left r
theorem left_app : ∀ {ks ks' : List K} {r : List (K × K)}, left (ks.zip ks' ++ r) ≤ K.sizes ks + left r
  | [], _, r => by rw [List.zip_nil_left, List.nil_append]; omega
  | k :: ks, [], r => by rw [List.zip_nil_right, List.nil_append]; omega
  | k :: ks, k' :: ks', r => by
    rw [List.zip_cons_cons, List.cons_append, left, K.sizes]
    have := @left_app ks ks' r
    dsimp only
    omega
theorem len_left : ∀ {ps : List (K × K)}, ps.length ≤ left ps
  | [] => Nat.le_refl _
  | (.node h ks, k') :: r => by
    rw [List.length_cons, left]
    have := @len_left r
    dsimp only
    rw [K.size]
    omega
end
section
set_option maxHeartbeats 1000000
theorem kw59 : True := by
  k_with_none
  k_with "ke_room" => (first | ((have hcL9ZZ := cLine_is; simp only [units_in1, units_deeper, Around.mark_units, units_caller]; (try dsimp only [arTop]); omega)) | fail)
  k_with "k_units" => (first | (ke_room) | fail)
  k_with "units_room" => (first | (ke_room) | fail)
  k_with "k_room" => (first | (((try simp only [depth_under_make, depth_under_kw, depth_in1, depth_deeper, depth_caller]); (try dsimp only [arTop]); (try simp only [recursionLimit]); omega)) | fail)
  k_with "ktr_room" => (first | (k_room) | fail)
  k_with "ktr_member" => (first | (first | exact allLt_ne (by with_reducible assumption) | exact allLt_ne1 (by with_reducible assumption) | exact allLt_ne2 (by with_reducible assumption) | exact off3_I (by with_reducible assumption) | exact off3_C (by with_reducible assumption) | exact off3_D (by with_reducible assumption) | exact off1_D (by with_reducible assumption)) | fail)
  k_with "k_ne" => (first | ((refine neN ?_; (try dsimp only); first | with_reducible assumption | exact Ne.symm (by with_reducible assumption) | exact Nat.ne_of_lt (by with_reducible assumption) | exact Nat.ne_of_gt (by with_reducible assumption) | omega)) | fail)
  k_with "kst_all" => (first | (first | with_reducible assumption | ktr_member | exact off_app (by first | with_reducible assumption | ktr_member) | exact off_app (off_app (by first | with_reducible assumption | ktr_member)) | exact off_app (off_app (off_app (by first | with_reducible assumption | ktr_member)))) | fail)
  k_with "kst_mem" => (first | ((refine' fil_mem ?aQ9 ?bQ9; (case aQ9 => k_mem); (case bQ9 => k_all))) | fail)
  k_with "kst_p" => (first | ((refine' fil_tree ?aQ10 ?bQ10 ?cQ10; (case aQ10 => with_reducible assumption); (case bQ10 => tb_start); (case cQ10 => exact fr_tl (by with_reducible assumption) (by with_reducible assumption) (by with_reducible assumption) (by with_reducible assumption) (by tb_start)))) | fail)
  k_with "k_all" => (first | (first | exact List.forall_mem_nil _ | (refine' List.forall_mem_cons.mpr ⟨?aQ11, ?bQ11⟩; (case aQ11 => k_ne); (case bQ11 => k_all)) | kst_all) | fail)
  k_with "lcg_off" => (first | (first | exact True.intro | (refine And.intro ⟨?aQ12, ?bQ12, ?cQ12⟩ ?dQ12; (case aQ12 => k_ne); (case bQ12 => k_ne); (case cQ12 => k_ne); (case dQ12 => lcg_off)) | with_reducible assumption | exact off3_of (by first | with_reducible assumption | ktr_member) (by first | with_reducible assumption | ktr_member) (by first | with_reducible assumption | ktr_member)) | fail)
  k_with "tb_rel" => (first | (first | with_reducible assumption | (refine List.mem_cons_of_mem _ ?_; tb_rel) | (refine List.mem_append.mpr (Or.inr ?_); tb_rel) | (refine List.mem_append.mpr (Or.inl ?_); tb_rel)) | fail)
  k_with "tb_start" => (first | ((intro p9ZZ hp9ZZ; tb_rel)) | fail)
  k_with "tbn_lt" => (first | (first | exact Ext.head | (refine' Ext.tail ?aQ15; (case aQ15 => tbn_lt))) | fail)
  k_with "tbn_below" => (first | (first | (refine' Split.cons ?aQ16; (case aQ16 => tbn_below)) | exact Split.base) | fail)
  k_with "tbn_conj" => (first | (first | exact True.intro | (refine' And.intro ?aQ17 ?bQ17; (case aQ17 => first | with_reducible assumption | ktr_member); (case bQ17 => tbn_conj))) | fail)
  k_with "my ite" => ((k_closed; first | (refine' iteBT ?p9Q18 ?_; (case p9Q18 => decide)) | (refine' iteBF ?p9Q18 ?_; (case p9Q18 => decide))))
  k_with "my CompEnd" => ((k_here; k_dflt (refine' comp_end ?FQ19 ?NQ19 ?e1Q19 ?e2Q19 ?e3Q19 ?offQ19 ?_; (case FQ19 => k_asm); (case NQ19 => k_asm); (case e1Q19 => tbn_lt); (case e2Q19 => tbn_lt); (case e3Q19 => tbn_lt); (case offQ19 => lcg_off))))
  k_with "my CompSrc" => ((k_here; k_dflt (refine LCg.CompSrc.range (by rfl) (by k_asm) (by k_asm) (by assumption) (by first | decide | rfl) (by first | rfl | decide) (by first | size_fits | exact Nat.le_of_ble_eq_true rfl) ?_; intro g'ZZ; lcg_lit)))
  k_with "my CompRest" => ((with_unfolding_all first | (refine LCg.CompRest.succ ?_; intro v'ZZ I'ZZ oI'ZZ C'ZZ oC'ZZ D'ZZ m'ZZ h'ZZ tk'ZZ E'ZZ hv'ZZ hC'ZZ hx'ZZ F'ZZ N'ZZ off'ZZ ne'ZZ; (first | lcg_open hv'ZZ | (obtain ⟨t9'ZZ, hv9'ZZ⟩ := hv'ZZ; subst hv9'ZZ)); (try dsimp only [LCg.Off3] at off'ZZ); (refine let_goal ?_); intro G9ZZ; (repeat (with_reducible obtain ⟨⟨_, _, _⟩, off'ZZ⟩ := off'ZZ)); (obtain ⟨_, _, _⟩ := ne'ZZ); k_unfold; clear G9ZZ) | refine LCg.CompRest.zero ?_))
  k_with "my FinE" => (((unfold LCg.FinE); intro D'ZZ h'ZZ tk'ZZ F'ZZ N'ZZ o1'ZZ; (try dsimp only [LCg.Off1] at o1'ZZ); (refine let_goal ?_); intro G9ZZ; (repeat (with_reducible obtain ⟨_, o1'ZZ⟩ := o1'ZZ)); k_unfold; clear G9ZZ; (try simp only [List.nil_append, List.cons_append] at N'ZZ); (try dsimp only)))
  trivial
/-- the tables of a Likeness and the two lists of numbers met: one list of pairs -/
structure Rl (f g : Int → Int) (ms ns : List Int) (T K : List (Int × Int)) : Prop where
  ok : Met ms ∧ Met ns
  ps : ∃ ps : List (Int × Int), ms = ps.map (·.1) ∧ ns = ps.map (·.2) ∧ T = ps.map (fun p => (f p.1, g p.2)) ∧ K = ps.map (fun p => (g p.2, f p.1))
structure Inj3 (f : Int → Int) : Prop where
  inj : ∀ x y, in3 x → in3 y → f x = f y → x = y
  nn : ∀ x, 0 ≤ f x
theorem num_inj (sh : Int) : Inj3 (num sh) := by
  refine ⟨fun x y hx hy h => ?_, fun x => ?_⟩
  · unfold num at h
    obtain ⟨x0, x1⟩ := hx
    obtain ⟨y0, y1⟩ := hy
    rw [Int.fmod_eq_emod_of_nonneg _ (by decide), Int.fmod_eq_emod_of_nonneg _ (by decide)] at h
    omega
  · unfold num
    rw [Int.fmod_eq_emod_of_nonneg _ (by decide)]
    omega
theorem lab_inj (sh : Int) : Inj3 (lab sh) := by
  refine ⟨fun x y hx hy h => ?_, fun x => ?_⟩
  · unfold lab at h
    obtain ⟨x0, x1⟩ := hx
    obtain ⟨y0, y1⟩ := hy
    rw [Int.fmod_eq_emod_of_nonneg _ (by decide), Int.fmod_eq_emod_of_nonneg _ (by decide)] at h
    omega
  · unfold lab
    rw [Int.fmod_eq_emod_of_nonneg _ (by decide)]
    omega
section
variable {f g : Int → Int} (hf : Inj3 f) (hg : Inj3 g)
include hf in
theorem has_iff {a : Int} (ha : in3 a) (k : Int × Int → Int) : ∀ {ps : List (Int × Int)}, (∀ p ∈ ps, in3 p.1) → kdfHas (ps.map fun p => (f p.1, k p)) (f a) = decide (a ∈ ps.map (·.1))
  | [], _ => rfl
  | p :: ps, h => by
    have ih := has_iff ha k (ps := ps) fun q hq => h q (.tail _ hq)
    unfold kdfHas at ih ⊢
    rw [List.map_cons, List.any_cons, ih, List.map_cons]
    by_cases e : a = p.1
    · subst e; simp
    · have : f p.1 ≠ f a := fun q => e (hf.inj _ _ ha (h p (.head _)) q.symm)
      simp [e, this]
include hf hg in
theorem look_iff {a b : Int} (ha : in3 a) (hb : in3 b) : ∀ {ps : List (Int × Int)}, (∀ p ∈ ps, in3 p.1 ∧ in3 p.2) → (ps.map (·.1)).Nodup → (kdfLook (ps.map fun p => (f p.1, g p.2)) (f a) (-1) == g b) = decide ((a, b) ∈ ps)
  | [], _, _ => by
    have := hg.nn b
    show ((-1 : Int) == g b) = _
    rw [beq_eq_false_iff_ne.mpr (by omega)]
    simp
  | p :: ps, h, hn => by
    rw [List.map_cons, List.nodup_cons] at hn
    have ih := look_iff ha hb (ps := ps) (fun q hq => h q (.tail _ hq)) hn.2
    unfold kdfLook at ih ⊢
    rw [List.map_cons, List.find?_cons]
    by_cases e : p.1 = a
    · subst e
      simp only [decide_true, Option.map_some, Option.getD_some]
      have hno : (p.1, b) ∉ ps := fun q => hn.1 (List.mem_map.mpr ⟨_, q, rfl⟩)
      by_cases e2 : p.2 = b
      · subst e2; simp
      · have : g p.2 ≠ g b := fun q => e2 (hg.inj _ _ (h p (.head _)).2 hb q)
        rw [beq_eq_false_iff_ne.mpr this]
        simp only [List.mem_cons, hno, or_false]
        exact (decide_eq_false fun q => e2 (congrArg Prod.snd q).symm).symm
    · have : f p.1 ≠ f a := fun q => e (hf.inj _ _ (h p (.head _)).1 ha q)
      simp only [decide_eq_false this]
      rw [ih]
      simp only [List.mem_cons]
      have : (a, b) ≠ p := fun q => e (congrArg Prod.fst q).symm
      simp [this]
theorem idx_iff {a b : Int} : ∀ {ps : List (Int × Int)}, (ps.map (·.1)).Nodup → (ps.map (·.2)).Nodup → a ∈ ps.map (·.1) → b ∈ ps.map (·.2) → ((ps.map (·.1)).idxOf a = (ps.map (·.2)).idxOf b ↔ (a, b) ∈ ps)
  | [], _, _, h, _ => by cases h
  | p :: ps, h1, h2, h3, h4 => by
    rw [List.map_cons, List.nodup_cons] at h1 h2
    rw [List.map_cons] at h3 h4
    rw [List.map_cons, List.map_cons, List.idxOf_cons, List.idxOf_cons]
    obtain ⟨x, y⟩ := p
    dsimp only at h1 h2 h3 h4 ⊢
    by_cases e1 : x = a <;> by_cases e2 : y = b
    · subst e1 e2; simp
    · subst e1
      have hno : (x, b) ∉ ps := fun q => h1.1 (List.mem_map.mpr ⟨_, q, rfl⟩)
      have e3 : ¬ b = y := fun q => e2 q.symm
      have e4 : (y == b) = false := beq_eq_false_iff_ne.mpr e2
      simp [e4, e3, hno]
    · subst e2
      have hno : (a, y) ∉ ps := fun q => h2.1 (List.mem_map.mpr ⟨_, q, rfl⟩)
      have e3 : ¬ a = x := fun q => e1 q.symm
      have e4 : (x == a) = false := beq_eq_false_iff_ne.mpr e1
      simp [e4, e3, hno]
    · have e3 : ¬ a = x := fun q => e1 q.symm
      have h3' : a ∈ ps.map (·.1) := (List.mem_cons.mp h3).resolve_left e3
      have h4' : b ∈ ps.map (·.2) := (List.mem_cons.mp h4).resolve_left fun q => e2 q.symm
      have ih := idx_iff h1.2 h2.2 h3' h4'
      have e4 : (x == a) = false := beq_eq_false_iff_ne.mpr e1
      have e5 : (y == b) = false := beq_eq_false_iff_ne.mpr e2
      simp [e4, e5, e3, ih]
theorem idx_len {ms : List Int} {a : Int} (h : a ∉ ms) : (cntL ms a).idxOf a = ms.length ∧ cntL ms a = ms ++ [a] := by
  unfold cntL
  rw [if_neg h, List.idxOf_append]
  simp [h]
include hf hg in
theorem goes_rl {ms ns : List Int} {T K : List (Int × Int)} {a b : Int} (h : Rl f g ms ns T K) (ha : in3 a) (hb : in3 b) :
    goesB T K (f a) (g b) = decide (idx1 ms a = idx1 ns b) ∧ (goesB T K (f a) (g b) = true → Rl f g (cntL ms a) (cntL ns b) (goesT T K (f a) (g b)) (goesK T K (f a) (g b))) := by
  obtain ⟨⟨hm, hn⟩, ps, e1, e2, eT, eK⟩ := h
  have hp : ∀ p ∈ ps, in3 p.1 ∧ in3 p.2 := fun p hp => ⟨hm.1 _ (e1 ▸ List.mem_map.mpr ⟨p, hp, rfl⟩), hn.1 _ (e2 ▸ List.mem_map.mpr ⟨p, hp, rfl⟩)⟩
  have hd1 : (ps.map (·.1)).Nodup := e1 ▸ hm.2
  have hd2 : (ps.map (·.2)).Nodup := e2 ▸ hn.2
  have k1 : kdfHas T (f a) = decide (a ∈ ms) := by rw [eT, e1]; exact has_iff hf ha _ fun p h => (hp p h).1
  have sw : ps.map (fun p => (g p.2, f p.1)) = (ps.map Prod.swap).map (fun p => (g p.1, f p.2)) := by rw [List.map_map]; rfl
  have sw1 : (ps.map Prod.swap).map (·.1) = ps.map (·.2) := by rw [List.map_map]; rfl
  have swp : ∀ p ∈ ps.map Prod.swap, in3 p.1 ∧ in3 p.2 := fun p h => by
    obtain ⟨q, hq, rfl⟩ := List.mem_map.mp h
    exact ⟨(hp q hq).2, (hp q hq).1⟩
  have k2 : kdfHas K (g b) = decide (b ∈ ns) := by
    rw [eK, sw, e2, ← sw1]
    exact has_iff hg hb (fun p => f p.2) fun p h => (swp p h).1
  have k3 : (kdfLook T (f a) (-1) == g b) = decide ((a, b) ∈ ps) := by rw [eT]; exact look_iff hf hg ha hb hp hd1
  have k4 : (kdfLook K (g b) (-1) == f a) = decide ((a, b) ∈ ps) := by
    rw [eK, sw, look_iff hg hf hb ha swp (sw1 ▸ hd2)]
    refine decide_eq_decide.mpr ⟨fun h => ?_, fun h => List.mem_map.mpr ⟨_, h, rfl⟩⟩
    obtain ⟨q, hq, e⟩ := List.mem_map.mp h
    obtain ⟨x, y⟩ := q
    obtain ⟨rfl, rfl⟩ := Prod.mk.inj e
    exact hq
  have hl : ms.length = ns.length := by rw [e1, e2, List.length_map, List.length_map]
  unfold goesB goesT goesK
  rw [k1, k2, k3, k4]
  by_cases ma : a ∈ ms
  · have ca : cntL ms a = ms := if_pos ma
    rw [decide_eq_true ma, Bool.true_or, if_pos rfl, if_pos rfl, if_pos rfl, Bool.and_self]
    by_cases mb : b ∈ ns
    · have cb : cntL ns b = ns := if_pos mb
      unfold idx1
      rw [ca, cb]
      have := idx_iff hd1 hd2 (e1 ▸ ma) (e2 ▸ mb)
      rw [← e1, ← e2] at this
      refine ⟨decide_eq_decide.mpr ?_, fun _ => ⟨⟨hm, hn⟩, ps, e1, e2, eT, eK⟩⟩
      rw [← this]
      exact Int.ofNat_inj.symm
    · have hno : (a, b) ∉ ps := fun q => mb (e2 ▸ List.mem_map.mpr ⟨_, q, rfl⟩)
      rw [decide_eq_false hno]
      refine ⟨(decide_eq_false ?_).symm, fun h => by cases h⟩
      unfold idx1
      rw [(idx_len mb).1, ca]
      have := List.idxOf_lt_length_of_mem ma
      omega
  · rw [decide_eq_false ma, Bool.false_or]
    by_cases mb : b ∈ ns
    · have cb : cntL ns b = ns := if_pos mb
      have hno : (a, b) ∉ ps := fun q => ma (e1 ▸ List.mem_map.mpr ⟨_, q, rfl⟩)
      rw [decide_eq_true mb, if_pos rfl, if_pos rfl, if_pos rfl, decide_eq_false hno]
      refine ⟨(decide_eq_false ?_).symm, fun h => by cases h⟩
      unfold idx1
      rw [(idx_len ma).1, cb]
      have := List.idxOf_lt_length_of_mem mb
      omega
    · rw [decide_eq_false mb, if_neg Bool.false_ne_true, if_neg Bool.false_ne_true, if_neg Bool.false_ne_true]
      refine ⟨(decide_eq_true ?_).symm, fun _ => ⟨⟨met_cnt hm ha, met_cnt hn hb⟩, ps ++ [(a, b)], ?_, ?_, ?_, ?_⟩⟩
      · unfold idx1
        rw [(idx_len ma).1, (idx_len mb).1, hl]
      · rw [(idx_len ma).2, List.map_append, e1]; rfl
      · rw [(idx_len mb).2, List.map_append, e2]; rfl
      · unfold kdfPut
        have k1' : (T.any fun p => decide (p.1 = f a)) = false := by unfold kdfHas at k1; rw [k1]; exact decide_eq_false ma
        rw [k1', if_neg Bool.false_ne_true, List.map_append, eT]; rfl
      · unfold kdfPut
        have k2' : (K.any fun p => decide (p.1 = g b)) = false := by unfold kdfHas at k2; rw [k2]; exact decide_eq_false mb
        rw [k2', if_neg Bool.false_ne_true, List.map_append, eK]; rfl
include hf hg in
theorem go_rl : ∀ {as bs ms ns : List Int} {T K : List (Int × Int)}, Rl f g ms ns T K → (∀ a ∈ as, in3 a) → (∀ b ∈ bs, in3 b) → as.length = bs.length →
    goB (as.map f) (bs.map g) T K = decide (idxs ms as = idxs ns bs) ∧ (goB (as.map f) (bs.map g) T K = true → Rl f g (cntAll ms as) (cntAll ns bs) (goT (as.map f) (bs.map g) T K).1 (goT (as.map f) (bs.map g) T K).2)
  | [], [], ms, ns, T, K, h, _, _, _ => ⟨rfl, fun _ => h⟩
  | a :: as, b :: bs, ms, ns, T, K, h, ha, hb, hl => by
    have g1 := goes_rl hf hg h (ha a (.head _)) (hb b (.head _))
    rw [List.map_cons, List.map_cons, goB, goT, idxs, idxs, cntAll, cntAll]
    cases hq : goesB T K (f a) (g b)
    · rw [hq] at g1
      refine ⟨?_, fun q => ?_⟩
      · rw [Bool.false_and]
        refine (decide_eq_false fun q => ?_).symm
        exact of_decide_eq_false g1.1.symm (List.cons.inj q).1
      · rw [Bool.false_and] at q; cases q
    · rw [hq] at g1
      have ih := go_rl (g1.2 rfl) (fun x hx => ha x (.tail _ hx)) (fun x hx => hb x (.tail _ hx)) (Nat.succ.inj hl)
      rw [Bool.true_and]
      refine ⟨?_, ih.2⟩
      rw [ih.1]
      refine decide_eq_decide.mpr ⟨fun q => ?_, fun q => (List.cons.inj q).2⟩
      rw [q, of_decide_eq_true g1.1.symm]
  | [], _ :: _, _, _, _, _, _, _, _, hl => by cases hl
  | _ :: _, [], _, _, _, _, _, _, _, hl => by cases hl
end
noncomputable def eqd (d e : Dat) : Bool := PyData.eqv (kqdP d) (kqdP e)
noncomputable def eqds (d e : List Dat) : Bool := PyData.eqvAll (kqdPs d) (kqdPs e)
theorem eqds_ints : ∀ {xs ys : List Int}, eqds (xs.map .int) (ys.map .int) = decide (xs = ys)
  | [], [] => rfl
  | [], _ :: _ => rfl
  | _ :: _, [] => rfl
  | x :: xs, y :: ys => by
    have ih := @eqds_ints xs ys
    unfold eqds at ih ⊢
    rw [List.map_cons, List.map_cons, kqdPs, kqdPs, PyData.eqvAll, ih, kqdP, kqdP, PyData.eqv]
    by_cases h : x = y <;> by_cases g : xs = ys <;> simp [h, g]
structure RS (sh sh' : Int) (ms ls ns us : List Int) (S : LS) : Prop where
  loc : Rl (num sh) (num sh') ms ns S.T S.K
  labs : Rl (lab sh) (lab sh') ls us S.U S.V
/-- a core head's word -/
noncomputable def kindWord (k : Int) : Str := if k = 0 then "const" else if k = 1 then "local" else if k = 2 then "global" else if k = 3 then "setlocal" else if k = 4 then "setglobal" else if k = 5 then "setglobal" else if k = 6 then "if" else if k = 7 then "lambda" else if k = 8 then "call" else if k = 9 then "seq" else if k = 10 then "prim" else "fix"
noncomputable def KH.word (h : KH) : Str := kindWord h.kind
theorem alike_word {x y : KH} {S S' : LS} (h : alike x y S = some S') : x.word = y.word := congrArg kindWord (alike_cases h).1
/-- the nine words of a plain head -/
theorem s_words {c n : Nat} {w : Str} {k : Int} (h : wfh c (.s w k) n) : w = "const" ∨ w = "local" ∨ w = "global" ∨ w = "setlocal" ∨ w = "setglobal" ∨ w = "if" ∨ w = "call" ∨ w = "seq" ∨ w = "prim" := by
  rcases h.2 with ⟨h | h | h, _⟩ | ⟨h | h, _⟩ | ⟨h, _⟩ | ⟨h, _⟩ | ⟨h | h, _⟩ <;> simp [h]
theorem core_word {c n : Nat} {h : Hd} {sh : Int} (hw : wfh c h n) : (coreH sh h).word = h.word := by
  cases h with
  | s w k =>
    rcases s_words hw with rfl | rfl | rfl | rfl | rfl | rfl | rfl | rfl | rfl
    case inr.inr.inr.inr.inl =>
      show KH.word (if k < 2 then .setg k else .defn k) = _
      split <;> rfl
    all_goals rfl
  | lam => rfl
  | fix => rfl
/-- an answer and what holds behind it -/
noncomputable def HL (x : Option LS) (b : Bool) (P : LS → Prop) : Prop := x.isSome = b ∧ ∀ S', x = some S' → P S'
theorem HL.ite {c : Prop} [Decidable c] {S' : LS} {b : Bool} {P : LS → Prop} (e : decide c = b) (p : c → P S') : HL (if c then some S' else none) b P := by
  split
  · rename_i h; rw [decide_eq_true h] at e; exact ⟨e, fun _ q => by cases q; exact p h⟩
  · rename_i h; rw [decide_eq_false h] at e; exact ⟨e, fun _ q => by cases q⟩
theorem HL.none {b : Bool} {P : LS → Prop} (e : b = false) : HL none b P := ⟨e.symm, fun _ q => by cases q⟩
theorem HL.some {S' : LS} {b : Bool} {P : LS → Prop} (e : b = true) (p : P S') : HL (some S') b P := ⟨e.symm, fun _ q => by cases q; exact p⟩
theorem eqd_int {x y : Int} : eqd (.int x) (.int y) = decide (x = y) := rfl
theorem dec_true {b : Bool} : decide (b = true) = b := by cases b <;> rfl
section
variable {sh sh' : Int} {ms ls ns us : List Int} {S : LS}
theorem s_law {c n n' : Nat} {w : Str} {k k' : Int} (hw : wfh c (.s w k) n) (hw' : wfh c (.s w k') n') (R : RS sh sh' ms ls ns us S) :
    HL (alike (coreH sh (.s w k)) (coreH sh' (.s w k')) S) (eqd (whatD (.s w k) ms ls) (whatD (.s w k') ns us)) (RS sh sh' (msH (.s w k) ms) ls (msH (.s w k') ns) us) := by
  have hl : ∀ x : KH → KH, HL (if goesB S.T S.K (num sh k) (num sh' k') = true then some { S with T := goesT S.T S.K (num sh k) (num sh' k'), K := goesK S.T S.K (num sh k) (num sh' k') } else none) (eqd (.int (idx1 ms k)) (.int (idx1 ns k'))) (RS sh sh' (cntL ms k) ls (cntL ns k') us) := fun _ => by
    have g := goes_rl (num_inj sh) (num_inj sh') R.loc hw.1 hw'.1
    exact .ite (by rw [dec_true, g.1, eqd_int]) fun h => ⟨g.2 h, R.labs⟩
  rcases s_words hw with rfl | rfl | rfl | rfl | rfl | rfl | rfl | rfl | rfl
  · exact .ite eqd_int.symm fun _ => R
  · exact hl id
  · exact .ite eqd_int.symm fun _ => R
  · exact hl id
  · show HL (alike (if k < 2 then .setg k else .defn k) (if k' < 2 then .setg k' else .defn k') S) (eqd (.int k) (.int k')) (RS sh sh' ms ls ns us)
    split <;> split
    · exact .ite eqd_int.symm fun _ => R
    · exact .none (by rw [eqd_int]; exact decide_eq_false (by omega))
    · exact .none (by rw [eqd_int]; exact decide_eq_false (by omega))
    · exact .ite eqd_int.symm fun _ => R
  · exact .some rfl R
  · exact .some rfl R
  · exact .some rfl R
  · exact .ite eqd_int.symm fun _ => R
theorem bnd_core {sh : Int} {ps : List Int} {r : Int} : bnd (ps.map (num sh)) (if r < 0 then -1 else num sh r) = (bnd ps r).map (num sh) := by
  unfold bnd
  rw [List.map_append]
  by_cases h : r < 0
  · rw [if_pos h, if_neg (by decide), if_neg (by omega)]; rfl
  · rw [if_neg h, if_pos ((num_inj sh).nn r), if_pos (by omega)]; rfl
theorem rest_core {sh : Int} {r : Int} : decide ((if r < 0 then -1 else num sh r) < 0) = !decide (0 ≤ r) := by
  by_cases h : r < 0
  · rw [if_pos h, decide_eq_false (by omega : ¬ 0 ≤ r)]; rfl
  · have := (num_inj sh).nn r
    rw [if_neg h, decide_eq_true (by omega : 0 ≤ r)]; exact decide_eq_false (by omega)
theorem idxs_len' : ∀ {ks ms : List Int}, (idxs ms ks).length = ks.length
  | [], _ => rfl
  | _ :: ks, _ => by rw [idxs, List.length_cons, List.length_cons, idxs_len']
theorem lam_law {c n n' : Nat} {l r l' r' : Int} {ps ps' : List Int} (hw : wfh c (.lam l ps r) n) (hw' : wfh c (.lam l' ps' r') n') (R : RS sh sh' ms ls ns us S) :
    HL (alike (coreH sh (.lam l ps r)) (coreH sh' (.lam l' ps' r')) S) (eqd (whatD (.lam l ps r) ms ls) (whatD (.lam l' ps' r') ns us)) (RS sh sh' (cntAll ms (bnd ps r)) (cntL ls l) (cntAll ns (bnd ps' r')) (cntL us l')) := by
  have e : eqd (whatD (.lam l ps r) ms ls) (whatD (.lam l' ps' r') ns us) = (decide (idx1 ls l = idx1 us l') && (decide (idxs ms (bnd ps r) = idxs ns (bnd ps' r')) && ((decide (0 ≤ r) == decide (0 ≤ r')) && true))) := by
    rw [← eqds_ints]; rfl
  rw [e]
  have g := goes_rl (lab_inj sh) (lab_inj sh') R.labs hw.1 hw'.1
  unfold coreH alike
  dsimp only
  rw [bnd_core, bnd_core, rest_core, rest_core, List.length_map, List.length_map]
  by_cases hl : (bnd ps r).length = (bnd ps' r').length
  · have q := go_rl (num_inj sh) (num_inj sh') R.loc (bnd_in3 hw) (bnd_in3 hw') hl
    rw [decide_eq_true hl, Bool.true_and]
    refine .ite ?_ fun h => ⟨q.2 h.2.2, g.2 h.2.1⟩
    rw [← g.1, ← q.1]
    cases goesB S.U S.V (lab sh l) (lab sh' l') <;> cases goB (List.map (num sh) (bnd ps r)) (List.map (num sh') (bnd ps' r')) S.T S.K <;> cases decide (0 ≤ r) <;> cases decide (0 ≤ r') <;> rfl
  · have hne : idxs ms (bnd ps r) ≠ idxs ns (bnd ps' r') := fun x => hl (by rw [← @idxs_len' (bnd ps r) ms, x, idxs_len'])
    rw [decide_eq_false hl, decide_eq_false hne, if_neg (fun h => by cases h.2.2)]
    exact .none (by rw [Bool.false_and, Bool.and_false])
theorem fix_law {c n n' : Nat} {k k' : Int} (hw : wfh c (.fix k) n) (hw' : wfh c (.fix k') n') (R : RS sh sh' ms ls ns us S) :
    HL (alike (coreH sh (.fix k)) (coreH sh' (.fix k')) S) (eqd (whatD (.fix k) ms ls) (whatD (.fix k') ns us)) (RS sh sh' (cntL ms k) ls (cntL ns k') us) := by
  have g := go_rl (num_inj sh) (num_inj sh') R.loc (as := [k]) (bs := [k']) (fun a h => List.mem_singleton.mp h ▸ hw.1) (fun a h => List.mem_singleton.mp h ▸ hw'.1) rfl
  have e : eqd (whatD (.fix k) ms ls) (whatD (.fix k') ns us) = decide (idxs ms [k] = idxs ns [k']) := by
    rw [← eqds_ints]; rfl
  rw [e, ← g.1]
  exact .ite (by rw [dec_true]; rfl) fun h => ⟨g.2 h, R.labs⟩
theorem hd_law {c n n' : Nat} {h h' : Hd} (hw : wfh c h n) (hw' : wfh c h' n') (R : RS sh sh' ms ls ns us S) :
    HL (alike (coreH sh h) (coreH sh' h') S) (h.word == h'.word && eqd (whatD h ms ls) (whatD h' ns us)) (RS sh sh' (msH h ms) (lsH h ls) (msH h' ns) (lsH h' us)) := by
  by_cases e : h.word = h'.word
  · rw [e, beq_self_eq_true, Bool.true_and]
    have no : ∀ {w k x}, wfh c (.s w k) x → w ≠ "lambda" ∧ w ≠ "fix" := fun h => by
      rcases s_words h with rfl | rfl | rfl | rfl | rfl | rfl | rfl | rfl | rfl <;> exact ⟨by decide, by decide⟩
    cases h with
    | s w k =>
      cases h' with
      | s w' k' =>
        obtain rfl : w = w' := e
        exact s_law hw hw' R
      | lam l ps r => exact absurd e (no hw).1
      | fix k' => exact absurd e (no hw).2
    | lam l ps r =>
      cases h' with
      | s w' k' => exact absurd e.symm (no hw').1
      | lam l' ps' r' => exact lam_law hw hw' R
      | fix k' => exact absurd (show Str.ofString "lambda" = Str.ofString "fix" from e) (by decide)
    | fix k =>
      cases h' with
      | s w' k' => exact absurd e.symm (no hw').2
      | lam l' ps' r' => exact absurd (show Str.ofString "fix" = Str.ofString "lambda" from e) (by decide)
      | fix k' => exact fix_law hw hw' R
  · rw [beq_eq_false_iff_ne.mpr e, Bool.false_and]
    cases q : alike (coreH sh h) (coreH sh' h') S with
    | none => exact .none rfl
    | some S' => exact absurd (by rw [← core_word hw, ← core_word hw']; exact alike_word q) e
end
section
variable {sh sh' : Int}
mutual
theorem tree_law : ∀ {t t' : T} {ms ls ns us : List Int} {S : LS}, t.wf 3 → t'.wf 3 → RS sh sh' ms ls ns us S →
    HL (sameK (core sh t) (core sh' t') S) (eqd (wrD t ms ls) (wrD t' ns us)) (RS sh sh' (msT t ms) (lsT t ls) (msT t' ns) (lsT t' us))
  | .node h ts, .node h' ts', ms, ls, ns, us, S, hw, hw', R => by
    unfold T.wf at hw hw'
    have q := hd_law hw.1 hw'.1 R
    have e : eqd (wrD (.node h ts) ms ls) (wrD (.node h' ts') ns us) = ((h.word == h'.word) && (eqd (whatD h ms ls) (whatD h' ns us) && (eqds (wrDs ts (msH h ms) (lsH h ls)) (wrDs ts' (msH h' ns) (lsH h' us)) && true))) := by
      rw [wrD, wrD]; rfl
    rw [e, ← Bool.and_assoc, ← q.1, core, core, sameK, msT, msT, lsT, lsT, Bool.and_true]
    cases q2 : alike (coreH sh h) (coreH sh' h') S with
    | none => exact .none rfl
    | some S' =>
      rw [Option.isSome_some, Bool.true_and]
      exact trees_law hw.2 hw'.2 (q.2 _ q2)
theorem trees_law : ∀ {ts ts' : List T} {ms ls ns us : List Int} {S : LS}, T.wfs 3 ts → T.wfs 3 ts' → RS sh sh' ms ls ns us S →
    HL (sameKs (cores sh ts) (cores sh' ts') S) (eqds (wrDs ts ms ls) (wrDs ts' ns us)) (RS sh sh' (msTs ts ms) (lsTs ts ls) (msTs ts' ns) (lsTs ts' us))
  | [], [], _, _, _, _, _, _, _, R => by
    rw [cores, cores, sameKs]
    exact .some rfl (by rw [msTs, msTs, lsTs, lsTs]; exact R)
  | t :: ts, t' :: ts', ms, ls, ns, us, S, hw, hw', R => by
    unfold T.wfs at hw hw'
    have q := tree_law hw.1 hw'.1 R
    have e : eqds (wrDs (t :: ts) ms ls) (wrDs (t' :: ts') ns us) = (eqd (wrD t ms ls) (wrD t' ns us) && eqds (wrDs ts (msT t ms) (lsT t ls)) (wrDs ts' (msT t' ns) (lsT t' us))) := by
      rw [wrDs, wrDs]; rfl
    rw [e, ← q.1, cores, cores, sameKs, msTs, msTs, lsTs, lsTs]
    cases q2 : sameK (core sh t) (core sh' t') S with
    | none => exact .none rfl
    | some S' =>
      rw [Option.isSome_some, Bool.true_and]
      exact trees_law hw.2 hw'.2 (q.2 _ q2)
  | [], t :: ts, _, _, _, _, _, _, _, _ => by
    rw [cores, cores, sameKs, wrDs, wrDs]
    exact .none rfl
  | t :: ts, [], _, _, _, _, _, _, _, _ => by
    rw [cores, cores, sameKs, wrDs, wrDs]
    exact .none rfl
end
end
theorem rl_nil {f g : Int → Int} : Rl f g [] [] [] [] := ⟨⟨⟨(fun _ h => nomatch h), List.nodup_nil⟩, ⟨(fun _ h => nomatch h), List.nodup_nil⟩⟩, [], rfl, rfl, rfl, rfl⟩
theorem rs_nil {sh sh' : Int} : RS sh sh' [] [] [] [] ⟨[], [], [], []⟩ := ⟨rl_nil, rl_nil⟩
/-- the plain law -/
theorem plain_law {sh sh' : Int} {t t' : T} (hw : t.wf 3) (hw' : t'.wf 3) : sameP [(core sh t, core sh' t')] ⟨[], [], [], []⟩ = eqd (wrD t [] []) (wrD t' [] []) := by
  have q := (tree_law hw hw' (@rs_nil sh sh')).1
  rw [← q, sameP]
  cases sameK (core sh t) (core sh' t') ⟨[], [], [], []⟩ <;> rfl
mutual
theorem eqv_refl : ∀ (d : Dat), PyData.eqv (kqdP d) (kqdP d) = true
  | .none => rfl
  | .bool b => by rw [kqdP, PyData.eqv, beq_self_eq_true]
  | .int b => by rw [kqdP, PyData.eqv, beq_self_eq_true]
  | .str b => by rw [kqdP, PyData.eqv, beq_self_eq_true]
  | .bytes _ => rfl
  | .tuple ds => by rw [kqdP, PyData.eqv]; exact eqvs_refl ds
  | .list ds => by rw [kqdP, PyData.eqv]; exact eqvs_refl ds
theorem eqvs_refl : ∀ (ds : List Dat), PyData.eqvAll (kqdPs ds) (kqdPs ds) = true
  | [] => rfl
  | d :: ds => by rw [kqdPs, PyData.eqvAll, eqv_refl d, eqvs_refl ds]; rfl
end
mutual
theorem eqv_symm : ∀ (d e : PyData), PyData.eqv d e = PyData.eqv e d
  | .tuple xs, .tuple ys => by rw [PyData.eqv, PyData.eqv]; exact eqvs_symm xs ys
  | .list xs, .list ys => by rw [PyData.eqv, PyData.eqv]; exact eqvs_symm xs ys
  | .none, e => by cases e <;> rfl
  | .dict _, e => by cases e <;> rfl
  | .bool b, e => by cases e <;> first | rfl | (rw [PyData.eqv, PyData.eqv]; exact Bool.eq_iff_iff.mpr (by rw [beq_iff_eq, beq_iff_eq]; exact eq_comm))
  | .int b, e => by cases e <;> first | rfl | (rw [PyData.eqv, PyData.eqv]; exact Bool.eq_iff_iff.mpr (by rw [beq_iff_eq, beq_iff_eq]; exact eq_comm))
  | .str b, e => by cases e <;> first | rfl | (rw [PyData.eqv, PyData.eqv]; exact Bool.eq_iff_iff.mpr (by rw [beq_iff_eq, beq_iff_eq]; exact eq_comm))
  | .tuple _, .none => rfl
  | .tuple _, .bool _ => rfl
  | .tuple _, .int _ => rfl
  | .tuple _, .str _ => rfl
  | .tuple _, .list _ => rfl
  | .tuple _, .dict _ => rfl
  | .list _, .none => rfl
  | .list _, .bool _ => rfl
  | .list _, .int _ => rfl
  | .list _, .str _ => rfl
  | .list _, .tuple _ => rfl
  | .list _, .dict _ => rfl
theorem eqvs_symm : ∀ (d e : List PyData), PyData.eqvAll d e = PyData.eqvAll e d
  | [], [] => rfl
  | [], _ :: _ => rfl
  | _ :: _, [] => rfl
  | x :: xs, y :: ys => by rw [PyData.eqvAll, PyData.eqvAll, eqv_symm x y, eqvs_symm xs ys]
end
theorem eqd_refl {d : Dat} : eqd d d = true := eqv_refl d
theorem eqd_symm {d e : Dat} : eqd d e = eqd e d := eqv_symm _ _
end
section
set_option maxHeartbeats 1000000
theorem kw61 : True := by
  k_with_none
  k_with "ke_room" => (first | ((have hcL9ZZ := cLine_is; simp only [units_in1, units_deeper, Around.mark_units, units_caller]; (try dsimp only [arTop]); omega)) | fail)
  k_with "k_units" => (first | (ke_room) | fail)
  k_with "units_room" => (first | (ke_room) | fail)
  k_with "k_room" => (first | (((try simp only [depth_under_make, depth_under_kw, depth_in1, depth_deeper, depth_caller]); (try dsimp only [arTop]); (try simp only [recursionLimit]); omega)) | fail)
  k_with "ktr_room" => (first | (k_room) | fail)
  k_with "ktr_member" => (first | (first | exact allLt_ne (by with_reducible assumption) | exact allLt_ne1 (by with_reducible assumption) | exact allLt_ne2 (by with_reducible assumption) | exact off3_I (by with_reducible assumption) | exact off3_C (by with_reducible assumption) | exact off3_D (by with_reducible assumption) | exact off1_D (by with_reducible assumption)) | fail)
  k_with "k_ne" => (first | ((refine neN ?_; (try dsimp only); first | with_reducible assumption | exact Ne.symm (by with_reducible assumption) | exact Nat.ne_of_lt (by with_reducible assumption) | exact Nat.ne_of_gt (by with_reducible assumption) | omega)) | fail)
  k_with "kst_all" => (first | (first | with_reducible assumption | ktr_member | exact off_app (by first | with_reducible assumption | ktr_member) | exact off_app (off_app (by first | with_reducible assumption | ktr_member)) | exact off_app (off_app (off_app (by first | with_reducible assumption | ktr_member)))) | fail)
  k_with "kst_mem" => (first | ((refine' fil_mem ?aQ9 ?bQ9; (case aQ9 => k_mem); (case bQ9 => k_all))) | fail)
  k_with "kst_p" => (first | ((refine' fil_tree ?aQ10 ?bQ10 ?cQ10; (case aQ10 => with_reducible assumption); (case bQ10 => tb_start); (case cQ10 => exact fr_tl (by with_reducible assumption) (by with_reducible assumption) (by with_reducible assumption) (by with_reducible assumption) (by tb_start)))) | fail)
  k_with "k_all" => (first | (first | exact List.forall_mem_nil _ | (refine' List.forall_mem_cons.mpr ⟨?aQ11, ?bQ11⟩; (case aQ11 => k_ne); (case bQ11 => k_all)) | kst_all) | fail)
  k_with "lcg_off" => (first | (first | exact True.intro | (refine And.intro ⟨?aQ12, ?bQ12, ?cQ12⟩ ?dQ12; (case aQ12 => k_ne); (case bQ12 => k_ne); (case cQ12 => k_ne); (case dQ12 => lcg_off)) | with_reducible assumption | exact off3_of (by first | with_reducible assumption | ktr_member) (by first | with_reducible assumption | ktr_member) (by first | with_reducible assumption | ktr_member)) | fail)
  k_with "tb_rel" => (first | (first | with_reducible assumption | (refine List.mem_cons_of_mem _ ?_; tb_rel) | (refine List.mem_append.mpr (Or.inr ?_); tb_rel) | (refine List.mem_append.mpr (Or.inl ?_); tb_rel)) | fail)
  k_with "tb_start" => (first | ((intro p9ZZ hp9ZZ; tb_rel)) | fail)
  k_with "tbn_lt" => (first | (first | exact Ext.head | (refine' Ext.tail ?aQ15; (case aQ15 => tbn_lt))) | fail)
  k_with "tbn_below" => (first | (first | (refine' Split.cons ?aQ16; (case aQ16 => tbn_below)) | exact Split.base) | fail)
  k_with "tbn_conj" => (first | (first | exact True.intro | (refine' And.intro ?aQ17 ?bQ17; (case aQ17 => first | with_reducible assumption | ktr_member); (case bQ17 => tbn_conj))) | fail)
  k_with "my ite" => ((k_closed; first | (refine' iteBT ?p9Q18 ?_; (case p9Q18 => decide)) | (refine' iteBF ?p9Q18 ?_; (case p9Q18 => decide))))
  k_with "my CompEnd" => ((k_here; k_dflt (refine' comp_end ?FQ19 ?NQ19 ?e1Q19 ?e2Q19 ?e3Q19 ?offQ19 ?_; (case FQ19 => k_asm); (case NQ19 => k_asm); (case e1Q19 => tbn_lt); (case e2Q19 => tbn_lt); (case e3Q19 => tbn_lt); (case offQ19 => lcg_off))))
  k_with "my CompSrc" => ((k_here; k_dflt (refine LCg.CompSrc.range (by rfl) (by k_asm) (by k_asm) (by assumption) (by first | decide | rfl) (by first | rfl | decide) (by first | size_fits | exact Nat.le_of_ble_eq_true rfl) ?_; intro g'ZZ; lcg_lit)))
  k_with "my CompRest" => ((with_unfolding_all first | (refine LCg.CompRest.succ ?_; intro v'ZZ I'ZZ oI'ZZ C'ZZ oC'ZZ D'ZZ m'ZZ h'ZZ tk'ZZ E'ZZ hv'ZZ hC'ZZ hx'ZZ F'ZZ N'ZZ off'ZZ ne'ZZ; (first | lcg_open hv'ZZ | (obtain ⟨t9'ZZ, hv9'ZZ⟩ := hv'ZZ; subst hv9'ZZ)); (try dsimp only [LCg.Off3] at off'ZZ); (refine let_goal ?_); intro G9ZZ; (repeat (with_reducible obtain ⟨⟨_, _, _⟩, off'ZZ⟩ := off'ZZ)); (obtain ⟨_, _, _⟩ := ne'ZZ); k_unfold; clear G9ZZ) | refine LCg.CompRest.zero ?_))
  k_with "my FinE" => (((unfold LCg.FinE); intro D'ZZ h'ZZ tk'ZZ F'ZZ N'ZZ o1'ZZ; (try dsimp only [LCg.Off1] at o1'ZZ); (refine let_goal ?_); intro G9ZZ; (repeat (with_reducible obtain ⟨_, o1'ZZ⟩ := o1'ZZ)); k_unfold; clear G9ZZ; (try simp only [List.nil_append, List.cons_append] at N'ZZ); (try dsimp only)))
  trivial
section
variable {P : Params} {news news' : List (Addr × Obj)}
theorem NodesIn.refs : ∀ {ks : List K} {vs : List Value}, NodesIn P news ks vs → ∀ v ∈ vs, ∃ c : Nat, v = .ref c
  | [], _, h => by rw [h.inv0]; intro v hv; cases hv
  | .node h ks :: r, _, x => by
    obtain ⟨v, q, rfl, h1, h2⟩ := x.inv
    obtain ⟨a, _, _, _, rfl, _⟩ := h1.inv
    intro v hv
    rcases List.mem_cons.mp hv with rfl | hv
    · exact ⟨_, rfl⟩
    · exact NodesIn.refs h2 v hv
theorem NodesIn.at : ∀ {ks : List K} {vs : List Value} {i : Nat} {k : K}, NodesIn P news ks vs → ks[i]? = some k → ∃ c : Nat, nthV vs i = some (.ref c) ∧ NodeIn P news k (.ref c)
  | [], _, i, k, _, e => by simp at e
  | .node h ks :: r, _, 0, k, x, e => by
    obtain ⟨v, q, rfl, h1, h2⟩ := x.inv
    have h1' := h1
    obtain ⟨a, _, _, _, rfl, _⟩ := h1.inv
    obtain rfl : K.node h ks = k := by simpa using e
    exact ⟨a, rfl, h1'⟩
  | _ :: r, _, i + 1, k, x, e => by
    obtain ⟨v, q, rfl, h1, h2⟩ := x.inv
    obtain ⟨c, e1, e2⟩ := NodesIn.at (i := i) h2 (by simpa using e)
    exact ⟨c, e1, e2⟩
theorem sizes_len : ∀ {ks : List K}, ks.length ≤ K.sizes ks
  | [] => Nat.le_refl _
  | .node h ks :: r => by
    have := @sizes_len r
    rw [List.length_cons, K.sizes, K.size]
    omega
end
theorem push_rev (us : List Value) (v : Value) : us.reverse.toArray.push v = (v :: us).reverse.toArray := by
  rw [List.reverse_cons]; simp
/-- what a push leaves -/
noncomputable def PushEnd (h₀ : Heap) (L : Addr) (l : Nat) (us : List Value) (n1 : Nat) (R : List (Addr × Obj)) (c c' : Nat) (m : Str → Option Value) (s₁ : Shared) (f : Flow) (s₂ : Shared) : Prop :=
  match f with
  | .next => ∃ h' tk D n2 n3, s₂ = { s₁ with heap := h', toks := tk } ∧ Fr h₀ L h' m ∧ News h₀ L h' ((D, tup [.ref c, .ref c'] n2) :: (l, listOf (us.reverse.toArray.push (.ref D)) n3) :: R) ∧ (∀ p ∈ (l, listOf us.reverse.toArray n1) :: R, p.1 < D)
  | _ => False
theorem zip_down {ks ks' : List K} {i : Nat} {k k' : K} (e : ks[i]? = some k) (e' : ks'[i]? = some k') : (ks.zip ks').drop i = (k, k') :: (ks.zip ks').drop (i + 1) := by
  have h : (ks.zip ks')[i]? = some (k, k') := by rw [List.getElem?_zip_eq_some]; exact ⟨e, e'⟩
  obtain ⟨hl, hv⟩ := List.getElem?_eq_some_iff.mp h
  rw [List.drop_eq_getElem_cons hl, hv]
section
variable {prog : Program} {w : World} {A : Around} {E : Value → Shared → Prop} {s : Shared} {env : Env} {h₀ : Heap} {x : Str} {body : List Stmt} {Q : Flow → Shared → Prop}
/-- the loop that pushes the parts, the last first -/
theorem push_loop {r l : Nat} {t₀ u₀ v₀ : Tok} {n n0 : Nat} {m₀ : Str → Option Value} {X Y : List (Addr × Obj)} {P : Params} {rs vs vs' : List Value} {ps : List (K × K)} {ks ks' : List K}
    (hh : A.handled = none) (hr : IsRange s.heap r ((n : Int) - 1) (-1) (-1) t₀ u₀ v₀) (F : Fr h₀ env.locals s.heap m₀) (N : News h₀ env.locals s.heap ((l, listOf rs.reverse.toArray n0) :: X)) (hl : ∀ p ∈ X, p.1 ≠ l) (sub : ∀ p ∈ Y, p ∈ X)
    (W : WaitIn P Y rs ps) (hk : ks.length = n) (hk' : ks'.length = n) (hn1 : NodesIn P Y ks vs) (hn2 : NodesIn P Y ks' vs') (hz : n + rs.length ≤ 1000)
    (turn : ∀ i j t us n1 c c' h tk R, i < n → j < n → nthV vs j = some (.ref c) → nthV vs' j = some (.ref c') → us.length ≤ 1000 → (∀ p ∈ X, p ∈ R) → (∀ p ∈ R, p.1 ≠ l) → Fr h₀ env.locals h (fun y => if y = x then some (.int ((j : Nat) : Int) t) else m₀ y) → News h₀ env.locals h ((l, listOf us.reverse.toArray n1) :: R) →
      wpAny (model prog w) A (execs body env) (PushEnd h₀ env.locals l us n1 R c c' (fun y => if y = x then some (.int ((j : Nat) : Int) t) else m₀ y) { s with heap := h, toks := tk }) E { s with heap := h, toks := tk })
    (done : ∀ (u : Option Value) us n1 tl h tk, Fr h₀ env.locals h (fun y => if y = x then u else m₀ y) → News h₀ env.locals h ((l, listOf us.reverse.toArray n1) :: (tl ++ X)) → (∀ p ∈ tl, p.1 ≠ l) → (∀ p ∈ tl, ∀ q ∈ X, q.1 ≠ p.1) → WaitIn P (tl ++ Y) us (ks.zip ks' ++ ps) → Q .next { s with heap := h, toks := tk }) :
    wpAny (model prog w) A (pyIter (.ref r)) (fun it s₂ => LoopAtV prog w A h₀ env x body Q E it s₂) E s := by
  refine grow_down (n := n) (news := (l, listOf rs.reverse.toArray n0) :: X) (fun i m nx => (∀ z, z ≠ x → m z = m₀ z) ∧ ∃ us n1 tl, nx = (l, listOf us.reverse.toArray n1) :: (tl ++ X) ∧ (∀ p ∈ tl, p.1 ≠ l) ∧ (∀ p ∈ tl, ∀ q ∈ X, q.1 ≠ p.1) ∧ us.length = i + rs.length ∧ WaitIn P (tl ++ Y) us ((ks.zip ks').drop (n - i) ++ ps)) hh hr (by omega) F N ⟨fun _ _ => rfl, rs, n0, [], rfl, fun _ h => (nomatch h), fun _ h => (nomatch h), (Nat.zero_add _).symm, ?_⟩ ?_ ?_
  · rw [List.drop_of_length_le (by rw [List.length_zip, hk, hk', Nat.min_self]; omega)]
    exact W
  · rintro i t m₁ nx h tk own hi hoff ⟨hm, us, n1, tl, rfl, h1, h2, h3, h4⟩ F' N'
    have em : (fun y => if y = x then some (Value.int (((n - 1 - i : Nat) : Nat) : Int) t) else m₁ y) = fun y => if y = x then some (Value.int (((n - 1 - i : Nat) : Nat) : Int) t) else m₀ y := by
      funext y
      split
      · rfl
      · exact hm y (by assumption)
    rw [em] at F'
    have hj : n - 1 - i < n := by omega
    obtain ⟨k, ek⟩ : ∃ k, ks[n - 1 - i]? = some k := ⟨_, List.getElem?_eq_getElem (by rw [hk]; exact hj)⟩
    obtain ⟨k', ek'⟩ : ∃ k, ks'[n - 1 - i]? = some k := ⟨_, List.getElem?_eq_getElem (by rw [hk']; exact hj)⟩
    obtain ⟨c, ec, hc⟩ := hn1.at ek
    obtain ⟨c', ec', hc'⟩ := hn2.at ek'
    refine wpAny_mono (turn i (n - 1 - i) t us n1 c c' h tk (tl ++ (X ++ own)) hi hj ec ec' (by omega) (fun p hp => List.mem_append_right _ (List.mem_append_left _ hp)) (fun p hp => ?_) F' (by rw [← List.append_assoc]; exact N')) (fun f s₂ q => ?_) fun _ _ q => q
    · rcases List.mem_append.mp hp with hp | hp
      · exact h1 p hp
      · rcases List.mem_append.mp hp with hp | hp
        · exact hl p hp
        · exact hoff p hp _ (.head _)
    · cases f with
      | next =>
        obtain ⟨h', tk', D, n2, n3, rfl, F2, N2, l1⟩ := q
        rw [push_rev] at N2
        refine ⟨h', tk', _, _, (l, listOf (Value.ref D :: us).reverse.toArray n3) :: (((D, tup [.ref c, .ref c'] n2) :: tl) ++ X), rfl, F2, N2, fun p hp => ?_, fun p hp => ?_, fun p hp q hq => ?_, fun z hz => if_neg hz, .ref D :: us, n3, (D, tup [.ref c, .ref c'] n2) :: tl, rfl, fun p hp => ?_, fun p hp q hq => ?_, ?_, ?_⟩
        · rcases List.mem_cons.mp hp with rfl | hp
          · exact .tail _ (.head _)
          · rcases List.mem_cons.mp hp with rfl | hp
            · exact .head _
            · refine .tail _ (.tail _ ?_)
              rw [← List.append_assoc]
              exact List.mem_append_left _ hp
        · exact .tail _ (.tail _ (List.mem_append_right _ (List.mem_append_right _ hp)))
        · have hD : p.1 < D := l1 p (.tail _ (List.mem_append_right _ (List.mem_append_right _ hp)))
          rcases List.mem_cons.mp hq with rfl | hq
          · exact hoff p hp (l, listOf us.reverse.toArray n1) (.head _)
          · rcases List.mem_cons.mp hq with rfl | hq
            · exact Nat.ne_of_lt hD
            · exact hoff p hp q (.tail _ hq)
        · rcases List.mem_cons.mp hp with rfl | hp
          · exact Nat.ne_of_gt (l1 _ (.head _))
          · exact h1 p hp
        · rcases List.mem_cons.mp hp with rfl | hp
          · exact Nat.ne_of_lt (l1 q (.tail _ (List.mem_append_right _ (List.mem_append_left _ hq))))
          · exact h2 p hp q hq
        · rw [List.length_cons, h3]; omega
        · have e1 : n - (i + 1) = n - 1 - i := by omega
          have e2 : n - i = n - 1 - i + 1 := by omega
          rw [e1, zip_down ek ek', ← e2]
          have s1 : ∀ p ∈ Y, p ∈ (D, tup [.ref c, .ref c'] n2) :: tl ++ Y := fun p hp => List.mem_append_right _ hp
          exact ⟨D, c, c', n2, us, rfl, .head _, NodeIn.mono s1 _ _ hc, NodeIn.mono s1 _ _ hc', h4.mono fun p hp => .tail _ hp⟩
      | _ => exact q.elim
  · rintro m₁ nx h tk ⟨hm, us, n1, tl, rfl, h1, h2, h3, h4⟩ F' N'
    rw [Nat.sub_self, List.drop_zero] at h4
    refine done (m₁ x) us n1 tl h tk ?_ N' h1 h2 h4
    have em : (fun y => if y = x then m₁ x else m₀ y) = m₁ := by
      funext y
      split
      · rename_i q; rw [q]
      · exact (hm y (by assumption)).symm
    rw [em]; exact F'
end
end
section
set_option maxHeartbeats 6000000
theorem kw63 : True := by
  k_with_none
  k_with "ke_room" => (first | ((have hcL9ZZ := cLine_is; simp only [units_in1, units_deeper, Around.mark_units, units_caller]; (try dsimp only [arTop]); omega)) | fail)
  k_with "k_units" => (first | (ke_room) | fail)
  k_with "units_room" => (first | (ke_room) | fail)
  k_with "k_room" => (first | (((try simp only [depth_under_make, depth_under_kw, depth_in1, depth_deeper, depth_caller]); (try dsimp only [arTop]); (try simp only [recursionLimit]); omega)) | fail)
  k_with "ktr_room" => (first | (k_room) | fail)
  k_with "ktr_member" => (first | (first | exact allLt_ne (by with_reducible assumption) | exact allLt_ne1 (by with_reducible assumption) | exact allLt_ne2 (by with_reducible assumption) | exact off3_I (by with_reducible assumption) | exact off3_C (by with_reducible assumption) | exact off3_D (by with_reducible assumption) | exact off1_D (by with_reducible assumption)) | fail)
  k_with "k_ne" => (first | ((refine neN ?_; (try dsimp only); first | with_reducible assumption | exact Ne.symm (by with_reducible assumption) | exact Nat.ne_of_lt (by with_reducible assumption) | exact Nat.ne_of_gt (by with_reducible assumption) | omega)) | fail)
  k_with "kst_all" => (first | (first | with_reducible assumption | ktr_member | exact off_app (by first | with_reducible assumption | ktr_member) | exact off_app (off_app (by first | with_reducible assumption | ktr_member)) | exact off_app (off_app (off_app (by first | with_reducible assumption | ktr_member)))) | fail)
  k_with "kst_mem" => (first | ((refine' fil_mem ?aQ9 ?bQ9; (case aQ9 => k_mem); (case bQ9 => k_all))) | fail)
  k_with "kst_p" => (first | ((refine' fil_tree ?aQ10 ?bQ10 ?cQ10; (case aQ10 => with_reducible assumption); (case bQ10 => tb_start); (case cQ10 => exact fr_tl (by with_reducible assumption) (by with_reducible assumption) (by with_reducible assumption) (by with_reducible assumption) (by tb_start)))) | fail)
  k_with "k_all" => (first | (first | exact List.forall_mem_nil _ | (refine' List.forall_mem_cons.mpr ⟨?aQ11, ?bQ11⟩; (case aQ11 => k_ne); (case bQ11 => k_all)) | kst_all) | fail)
  k_with "lcg_off" => (first | (first | exact True.intro | (refine And.intro ⟨?aQ12, ?bQ12, ?cQ12⟩ ?dQ12; (case aQ12 => k_ne); (case bQ12 => k_ne); (case cQ12 => k_ne); (case dQ12 => lcg_off)) | with_reducible assumption | exact off3_of (by first | with_reducible assumption | ktr_member) (by first | with_reducible assumption | ktr_member) (by first | with_reducible assumption | ktr_member)) | fail)
  k_with "tb_rel" => (first | (first | with_reducible assumption | (refine List.mem_cons_of_mem _ ?_; tb_rel) | (refine List.mem_append.mpr (Or.inr ?_); tb_rel) | (refine List.mem_append.mpr (Or.inl ?_); tb_rel)) | fail)
  k_with "tb_start" => (first | ((intro p9ZZ hp9ZZ; tb_rel)) | fail)
  k_with "tbn_lt" => (first | (first | exact Ext.head | (refine' Ext.tail ?aQ15; (case aQ15 => tbn_lt))) | fail)
  k_with "tbn_below" => (first | (first | (refine' Split.cons ?aQ16; (case aQ16 => tbn_below)) | exact Split.base) | fail)
  k_with "tbn_conj" => (first | (first | exact True.intro | (refine' And.intro ?aQ17 ?bQ17; (case aQ17 => first | with_reducible assumption | ktr_member); (case bQ17 => tbn_conj))) | fail)
  k_with "my ite" => ((k_closed; first | (refine' iteBT ?p9Q18 ?_; (case p9Q18 => decide)) | (refine' iteBF ?p9Q18 ?_; (case p9Q18 => decide))))
  k_with "my CompEnd" => ((k_here; k_dflt (refine' comp_end ?FQ19 ?NQ19 ?e1Q19 ?e2Q19 ?e3Q19 ?offQ19 ?_; (case FQ19 => k_asm); (case NQ19 => k_asm); (case e1Q19 => tbn_lt); (case e2Q19 => tbn_lt); (case e3Q19 => tbn_lt); (case offQ19 => lcg_off))))
  k_with "my CompSrc" => ((k_here; k_dflt (refine LCg.CompSrc.range (by rfl) (by k_asm) (by k_asm) (by assumption) (by first | decide | rfl) (by first | rfl | decide) (by first | size_fits | exact Nat.le_of_ble_eq_true rfl) ?_; intro g'ZZ; lcg_lit)))
  k_with "my CompRest" => ((with_unfolding_all first | (refine LCg.CompRest.succ ?_; intro v'ZZ I'ZZ oI'ZZ C'ZZ oC'ZZ D'ZZ m'ZZ h'ZZ tk'ZZ E'ZZ hv'ZZ hC'ZZ hx'ZZ F'ZZ N'ZZ off'ZZ ne'ZZ; (first | lcg_open hv'ZZ | (obtain ⟨t9'ZZ, hv9'ZZ⟩ := hv'ZZ; subst hv9'ZZ)); (try dsimp only [LCg.Off3] at off'ZZ); (refine let_goal ?_); intro G9ZZ; (repeat (with_reducible obtain ⟨⟨_, _, _⟩, off'ZZ⟩ := off'ZZ)); (obtain ⟨_, _, _⟩ := ne'ZZ); k_unfold; clear G9ZZ) | refine LCg.CompRest.zero ?_))
  k_with "my FinE" => (((unfold LCg.FinE); intro D'ZZ h'ZZ tk'ZZ F'ZZ N'ZZ o1'ZZ; (try dsimp only [LCg.Off1] at o1'ZZ); (refine let_goal ?_); intro G9ZZ; (repeat (with_reducible obtain ⟨_, o1'ZZ⟩ := o1'ZZ)); k_unfold; clear G9ZZ; (try simp only [List.nil_append, List.cons_append] at N'ZZ); (try dsimp only)))
  trivial
/-- what same_core answers -/
noncomputable def SamePost (b : Bool) (news : List (Addr × Obj)) (r : Value) (news' : List (Addr × Obj)) : Prop := r = .bool b ∧ news' = news
/-- the loop's things -/
structure SC where
  l : Nat
  x : Nat
  dx : Nat
  y : Nat
  dy : Nat
  dT : Nat
  dB : Nat
  eT : Nat
  eB : Nat
  t1 : Tok
  t2 : Tok
  t3 : Tok
  t4 : Tok
noncomputable def SC.base (c : SC) (P : Params) (news : List (Addr × Obj)) : List (Addr × Obj) :=
  (c.x, instObj 763 c.dx) :: (c.dx, dictOf [fe P "there" c.t1 (.ref c.dT), fe P "back" c.t2 (.ref c.dB)] 2) :: (c.y, instObj 763 c.dy) :: (c.dy, dictOf [fe P "there" c.t3 (.ref c.eT), fe P "back" c.t4 (.ref c.eB)] 2) :: news
/-- an address off the five that change -/
noncomputable def SC.off (c : SC) (a : Nat) : Prop := a ≠ c.l ∧ a ≠ c.dT ∧ a ≠ c.dB ∧ a ≠ c.eT ∧ a ≠ c.eB
structure SC.Ok (c : SC) (P : Params) (news : List (Addr × Obj)) : Prop where
  off : ∀ p ∈ c.base P news, c.off p.1
  l1 : c.dT ≠ c.l
  l2 : c.dB ≠ c.l
  l3 : c.eT ≠ c.l
  l4 : c.eB ≠ c.l
  n0 : c.dT ≠ c.dB
  n5 : c.eT ≠ c.eB
  n1 : c.eT ≠ c.dT
  n2 : c.eT ≠ c.dB
  n3 : c.eB ≠ c.dT
  n4 : c.eB ≠ c.dB
  s1 : (c.dT == sysModules) = false
  s2 : (c.dB == sysModules) = false
  s3 : (c.eT == sysModules) = false
  s4 : (c.eB == sysModules) = false
theorem SC.Ok.like1 {c : SC} {P : Params} {news tl : List (Addr × Obj)} {prog : Program} {w : World} (e : P = w.params) (h : c.Ok P news) (ht : ∀ p ∈ tl, c.off p.1) : LikeAt prog w c.x c.dx c.dT c.dB c.t1 c.t2 (tl ++ c.base P news) := by
  subst e
  refine ⟨List.mem_append_right _ (.head _), List.mem_append_right _ (.tail _ (.head _)), h.n0, fun p hp => ?_, fun p hp => ?_, h.s1, h.s2⟩
  · exact (List.mem_append.mp hp).elim (fun q => (ht p q).2.1) fun q => (h.off p q).2.1
  · exact (List.mem_append.mp hp).elim (fun q => (ht p q).2.2.1) fun q => (h.off p q).2.2.1
theorem SC.Ok.like2 {c : SC} {P : Params} {news tl : List (Addr × Obj)} {prog : Program} {w : World} (e : P = w.params) (h : c.Ok P news) (ht : ∀ p ∈ tl, c.off p.1) : LikeAt prog w c.y c.dy c.eT c.eB c.t3 c.t4 (tl ++ c.base P news) := by
  subst e
  refine ⟨List.mem_append_right _ (.tail _ (.tail _ (.head _))), List.mem_append_right _ (.tail _ (.tail _ (.tail _ (.head _)))), h.n5, fun p hp => ?_, fun p hp => ?_, h.s3, h.s4⟩
  · exact (List.mem_append.mp hp).elim (fun q => (ht p q).2.2.2.1) fun q => (h.off p q).2.2.2.1
  · exact (List.mem_append.mp hp).elim (fun q => (ht p q).2.2.2.2) fun q => (h.off p q).2.2.2.2
/-- the frame, as the loop finds it -/
noncomputable def SC.frm (c : SC) (m : Str → Option Value) : Str → Option Value := fun z => if z = "numbers" then some (.ref c.x) else if z = "labels" then some (.ref c.y) else if z = "waiting" then some (.ref c.l) else m z
theorem SC.frm_of {c : SC} {m : Str → Option Value} {h₀ h : Heap} {L : Addr} (F : Fr h₀ L h m) (h1 : m "numbers" = some (.ref c.x)) (h2 : m "labels" = some (.ref c.y)) (h3 : m "waiting" = some (.ref c.l)) : Fr h₀ L h (c.frm m) := by
  have e : c.frm m = m := by
    funext z
    unfold SC.frm
    split
    · rename_i q; rw [q, h1]
    · split
      · rename_i q; rw [q, h2]
      · split
        · rename_i q; rw [q, h3]
        · rfl
  rw [e]; exact F
/-- the ledger in the loop -/
noncomputable def SC.led (c : SC) (P : Params) (news : List (Addr × Obj)) (us : List Value) (n : Nat) (oT oB pT pB : Obj) (tl : List (Addr × Obj)) : List (Addr × Obj) :=
  (c.l, listOf us.toArray n) :: (c.dT, oT) :: (c.dB, oB) :: (c.eT, pT) :: (c.eB, pB) :: (tl ++ c.base P news)
structure SameInv (prog : Program) (w : World) (h₀ : Heap) (L : Addr) (c : SC) (news : List (Addr × Obj)) (b : Bool) (ps : List (K × K)) (S : LS) (h : Heap) (m : Str → Option Value) (rs : List Value) (n : Nat) (oT oB pT pB : Obj) (tl : List (Addr × Obj)) : Prop where
  F : Fr h₀ L h (c.frm m)
  N : News h₀ L h (c.led w.params news rs.reverse n oT oB pT pB tl)
  off : ∀ p ∈ tl, c.off p.1
  W : WaitIn w.params (tl ++ c.base w.params news) rs ps
  dicts : LikeDicts prog w oT oB pT pB S
  fit : S.fits (850 - 4 * left ps)
  small : left ps ≤ 200
  right : ∀ p ∈ ps, p.2.size ≤ 1000
  ans : sameP ps S = b
noncomputable def SameI (prog : Program) (w : World) (h₀ : Heap) (L : Addr) (c : SC) (news : List (Addr × Obj)) (b : Bool) (s₀ : Shared) (p : List (K × K) × LS) (s : Shared) : Prop :=
  ∃ h tk m rs n oT oB pT pB tl, s = { s₀ with heap := h, toks := tk } ∧ SameInv prog w h₀ L c news b p.1 p.2 h m rs n oT oB pT pB tl
theorem pop_last (r : List Value) (y : Value) : kl_last (y :: r).reverse.toArray.toList = some (r.reverse, y) := by
  rw [List.reverse_cons]; exact kl_last_snoc _ _
theorem like_one {prog : Program} {w : World} {x d dT dB l : Nat} {t1 t2 : Tok} {rest : List (Addr × Obj)} {o : Obj} (h : ∀ o, LikeAt prog w x d dT dB t1 t2 ((l, o) :: rest)) : LikeAt prog w x d dT dB t1 t2 ((l, o) :: rest) := h o
theorem pos_nat {n : Nat} (h : 0 < n) : decide ((0 : Int) < ((n : Nat) : Int)) = true := decide_eq_true (by omega)
/-- the frame's map, written -/
noncomputable abbrev SC.fm (c : SC) (m : Str → Option Value) : Str → Option Value := fun z => if z = "numbers" then some (.ref c.x) else if z = "labels" then some (.ref c.y) else if z = "waiting" then some (.ref c.l) else m z
/-- a turn where a pair waits: its facts, then what is to be shown -/
noncomputable def SameTurn (prog : Program) (w : World) (h₀ : Heap) (L : Addr) (c : SC) (news : List (Addr × Obj)) (b : Bool) (s₀ : Shared) (C : List (K × K) × LS → Shared → Prop) : Prop :=
  ∀ (h h' : KH) (ks ks' : List K) (ps : List (K × K)) (S : LS) (h6 : Heap) (tk : Nat) (m : Str → Option Value) (t6 a6 a7 n7 d6 d7 n5 n6 : Nat) (o6 o7 : Obj) (r6 vs6 vs7 : List Value) (oT oB pT pB : Obj) (tl : List (Addr × Obj)),
  (Fr h₀ L h6 (c.fm m)) →
  (News h₀ L h6 ((c.l, listOf (Value.ref t6 :: r6).reverse.toArray n6) :: (c.dT, oT) :: (c.dB, oB) :: (c.eT, pT) :: (c.eB, pB) :: (tl ++ c.base w.params news))) →
  (∀ p ∈ tl, c.off p.1) →
  ((t6, tup [.ref a6, .ref a7] n7) ∈ tl ++ c.base w.params news) →
  ((a6, instObj h.cls d6) ∈ tl ++ c.base w.params news) →
  ((d6, o6) ∈ tl ++ c.base w.params news) →
  (FldIn w.params (tl ++ c.base w.params news) h o6 vs6) →
  (NodesIn w.params (tl ++ c.base w.params news) ks vs6) →
  ((a7, instObj h'.cls d7) ∈ tl ++ c.base w.params news) →
  ((d7, o7) ∈ tl ++ c.base w.params news) →
  (FldIn w.params (tl ++ c.base w.params news) h' o7 vs7) →
  (NodesIn w.params (tl ++ c.base w.params news) ks' vs7) →
  (WaitIn w.params (tl ++ c.base w.params news) r6 ps) →
  ((Value.ref t6 :: r6).reverse.length = n5) →
  (n5 ≤ 100000) →
  (decide ((0 : Int) < ((n5 : Nat) : Int)) = true) →
  ((Value.ref t6 :: r6).reverse.toArray.toList.length ≤ sizeLine) →
  (∀ o, LikeAt prog w c.x c.dx c.dT c.dB c.t1 c.t2 ((c.l, o) :: (tl ++ c.base w.params news))) →
  (∀ o, LikeAt prog w c.y c.dy c.eT c.eB c.t3 c.t4 ((c.l, o) :: (tl ++ c.base w.params news))) →
  (∀ p ∈ tl ++ c.base w.params news, p.1 ≠ c.l) →
  (c.dT ≠ c.l) →
  (c.dB ≠ c.l) →
  (c.eT ≠ c.l) →
  (c.eB ≠ c.l) →
  (c.eT ≠ c.dT) →
  (c.eT ≠ c.dB) →
  (c.eB ≠ c.dT) →
  (c.eB ≠ c.dB) →
  (LikeDicts prog w oT oB pT pB S) →
  (S.T.length ≤ 850) →
  (S.K.length ≤ 850) →
  (S.U.length ≤ 850) →
  (S.V.length ≤ 850) →
  (∀ v ∈ vs6, ∃ c : Nat, v = .ref c) →
  (∀ v ∈ vs7, ∃ c : Nat, v = .ref c) →
  (vs6.length = ks.length) →
  (vs7.length = ks'.length) →
  (ks.length ≤ 100000) →
  (ks'.length ≤ 100000) →
  (vs6.length ≤ 1000) →
  (vs7.length ≤ 1000) →
  (ks.length + r6.length ≤ 1000) →
  (h.small) →
  (S.fits (850 - 4 * left ((K.node h ks, K.node h' ks') :: ps))) →
  (left ((K.node h ks, K.node h' ks') :: ps) ≤ 200) →
  (∀ p ∈ (K.node h ks, K.node h' ks') :: ps, p.2.size ≤ 1000) →
  (sameP ((K.node h ks, K.node h' ks') :: ps) S = b) →
  C ((K.node h ks, K.node h' ks') :: ps, S) { s₀ with heap := h6, toks := tk }
theorem same_open {prog : Program} {w : World} {h₀ : Heap} {L : Addr} {c : SC} {news : List (Addr × Obj)} {b : Bool} {s₀ : Shared} (ok : c.Ok w.params news) (C : List (K × K) × LS → Shared → Prop)
    (turn0 : ∀ (S : LS) (m : Str → Option Value) (n : Nat) (oT oB pT pB : Obj) (tl : List (Addr × Obj)) (h : Heap) (tk : Nat), Fr h₀ L h (c.fm m) → News h₀ L h ((c.l, listOf ([] : List Value).reverse.toArray n) :: (c.dT, oT) :: (c.dB, oB) :: (c.eT, pT) :: (c.eB, pB) :: (tl ++ c.base w.params news)) → b = true → C ([], S) { s₀ with heap := h, toks := tk })
    (turn1 : SameTurn prog w h₀ L c news b s₀ C) : ∀ p s, SameI prog w h₀ L c news b s₀ p s → C p s := by
  rintro ⟨ps, S6⟩ s6 ⟨h6, tk6, m6, rs, n6, oT, oB, pT, pB, tl, rfl, I6⟩
  obtain ⟨F6, N6, off6, W6, hS6, fit6, small6, right6, ans6⟩ := I6
  dsimp only at hS6 fit6 ans6 small6 right6 W6
  cases ps with
  | nil =>
    obtain rfl : rs = [] := W6
    exact turn0 S6 m6 n6 oT oB pT pB tl h6 tk6 F6 N6 (by rw [← ans6]; rfl)
  | cons p6 ps =>
    obtain ⟨⟨h, ks⟩, ⟨h', ks'⟩⟩ := p6
    obtain ⟨t6, a6, a7, n7, r6, rfl, w1, w2, w3, w4⟩ := W6
    obtain ⟨a8, d6, o6, vs6, e8, b1, b2, b3, b4⟩ := w2.inv
    obtain rfl : a6 = a8 := Value.ref.inj e8
    obtain ⟨a9, d7, o7, vs7, e9, b5, b6, b7, b8⟩ := w3.inv
    obtain rfl : a7 = a9 := Value.ref.inj e9
    have z0 : r6.length = ps.length := w4.length
    have z4 := @len_left ps
    have z5 : left ((K.node h ks, K.node h' ks') :: ps) = K.sizes ks + 1 + left ps := rfl
    have z6 := @sizes_len ks
    have x3 := @sizes_len ks'
    have x4 : K.sizes ks' + 1 ≤ 1000 := right6 _ (.head _)
    have x1 : vs6.length = ks.length := b4.length
    have x2 : vs7.length = ks'.length := b8.length
    have z1 : (Value.ref t6 :: r6).reverse.length = r6.length + 1 := by rw [List.length_reverse]; rfl
    have q1 : r6.length ≤ 199 ∧ ks.length ≤ 199 ∧ ks'.length ≤ 999 ∧ ks.length + r6.length ≤ 1000 := by clear z1 x1 x2; omega
    clear z5 z6 x3 x4 z4 z0
    have up : ∀ n : Nat, n ≤ 850 - 4 * left ((K.node h ks, K.node h' ks') :: ps) → n ≤ 850 := fun n hn => Nat.le_trans hn (Nat.sub_le _ _)
    have lt : ∀ {n k : Nat} (z : Nat), n ≤ k → k ≤ z → n ≤ z := fun _ h1 h2 => Nat.le_trans h1 h2
    exact turn1 h h' ks ks' ps S6 h6 tk6 m6 t6 a6 a7 n7 d6 d7 _ n6 o6 o7 r6 vs6 vs7 oT oB pT pB tl
      F6 N6 off6 w1 b1 b2 b3 b4 b5 b6 b7 b8 w4 z1 (lt _ (Nat.succ_le_succ q1.1) (by decide)) (pos_nat (Nat.succ_pos _)) (by show (Value.ref t6 :: r6).reverse.length ≤ sizeLine; rw [z1, PySem.sizeLine_eq]; exact Nat.le_trans (Nat.succ_le_succ q1.1) (by decide))
      (fun o => (ok.like1 rfl off6).cons (Ne.symm ok.l1) (Ne.symm ok.l2)) (fun o => (ok.like2 rfl off6).cons (Ne.symm ok.l3) (Ne.symm ok.l4)) (fun p hp => (List.mem_append.mp hp).elim (fun q => (off6 p q).1) fun q => (ok.off p q).1)
      ok.l1 ok.l2 ok.l3 ok.l4 ok.n1 ok.n2 ok.n3 ok.n4 hS6 (up _ fit6.1) (up _ fit6.2.1) (up _ fit6.2.2.1) (up _ fit6.2.2.2) b4.refs b8.refs x1 x2 (lt _ q1.2.1 (by decide)) (lt _ q1.2.2.1 (by decide)) (x1 ▸ lt _ q1.2.1 (by decide)) (x2 ▸ lt _ q1.2.2.1 (by decide)) q1.2.2.2 (fld_small b3) fit6 small6 right6 ans6
/-- what a turn of the loop has to show -/
noncomputable abbrev TurnGoal (prog : Program) (w : World) (A : Around) (env : Env) (E : Value → Shared → Prop) (test : PySem.Expr) (body : List Stmt) (Q : Flow → Shared → Prop) (Inv : List (K × K) × LS → Shared → Prop) (p : List (K × K) × LS) (s : Shared) : Prop :=
  wpAny (model prog w) A (isTrue test env (eval test env)) (fun b s₂ => WhlIf b (wpAny (model prog w) A (execs body env) (WhEnd Inv (fun p => left p.1) Q p) E s₂) (wpAny (model prog w) A (execs [] env) Q E s₂)) E s
section
variable {prog : Program} {w : World} {h₀ h : Heap} {L : Addr} {m : Str → Option Value} {news : List (Addr × Obj)} {k k' : K} {a a' : Nat} {l D dB dT dx x eB eT dy y : Nat} {t1 t2 t3 t4 : Tok} {oT oB pT pB : Obj} {n0 : Nat} {A : Around} {E : Value → Shared → Prop} {s : Shared} {env : Env} {Q : Flow → Shared → Prop}
/-- where the loop starts -/
theorem same_start {test : PySem.Expr} {body : List Stmt} {pos : Pos} (F : Fr h₀ env.locals s.heap m)
    (N : News h₀ env.locals s.heap ((l, listOf [Value.ref D].toArray 0) :: (D, tup [.ref a, .ref a'] n0) :: (eB, pB) :: (eT, pT) :: (y, instObj 763 dy) :: (dy, dictOf [fe w.params "there" t3 (.ref eT), fe w.params "back" t4 (.ref eB)] 2) :: (dB, oB) :: (dT, oT) :: (x, instObj 763 dx) :: (dx, dictOf [fe w.params "there" t1 (.ref dT), fe w.params "back" t2 (.ref dB)] 2) :: news))
    (f1 : m "numbers" = some (.ref x)) (f2 : m "labels" = some (.ref y)) (f3 : m "waiting" = some (.ref l))
    (c0 : AllLt dx news) (c1 : dx < x) (c2 : x < dT) (c3 : dT < dB) (c4 : dB < dy) (c5 : dy < y) (c6 : y < eT) (c7 : eT < eB) (c8 : eB < D) (c9 : D < l)
    (s1 : (dT == sysModules) = false) (s2 : (dB == sysModules) = false) (s3 : (eT == sysModules) = false) (s4 : (eB == sysModules) = false)
    (hS : LikeDicts prog w oT oB pT pB ⟨[], [], [], []⟩) (h1 : NodeIn w.params news k (.ref a)) (h2 : NodeIn w.params news k' (.ref a')) (hz : k.size ≤ 200) (hz' : k'.size ≤ 1000)
    (hE : PassesOwn (model prog w) A env E)
    (turn0 : ∀ (c : SC) (S : LS) (m : Str → Option Value) (n : Nat) (oT oB pT pB : Obj) (tl : List (Addr × Obj)) (h : Heap) (tk : Nat), Fr h₀ env.locals h (c.fm m) → News h₀ env.locals h ((c.l, listOf ([] : List Value).reverse.toArray n) :: (c.dT, oT) :: (c.dB, oB) :: (c.eT, pT) :: (c.eB, pB) :: (tl ++ c.base w.params news)) → sameP [(k, k')] ⟨[], [], [], []⟩ = true →
      TurnGoal prog w A env E test body Q (SameI prog w h₀ env.locals c news (sameP [(k, k')] ⟨[], [], [], []⟩) s) ([], S) { s with heap := h, toks := tk })
    (turn1 : ∀ c : SC, SameTurn prog w h₀ env.locals c news (sameP [(k, k')] ⟨[], [], [], []⟩) s (TurnGoal prog w A env E test body Q (SameI prog w h₀ env.locals c news (sameP [(k, k')] ⟨[], [], [], []⟩) s))) :
    wpAny (model prog w) A (exec (.While test body [] pos) env) Q E s := by
  have hc : ∀ p ∈ news, @LT.lt Nat _ p.1 dx := allLt_lt c0
  have ok : SC.Ok ⟨l, x, dx, y, dy, dT, dB, eT, eB, t1, t2, t3, t4⟩ w.params news := by
    refine ⟨fun p hp => ?_, by show dT ≠ l; omega, by show dB ≠ l; omega, by show eT ≠ l; omega, by show eB ≠ l; omega, by show dT ≠ dB; omega, by show eT ≠ eB; omega, by show eT ≠ dT; omega, by show eT ≠ dB; omega, by show eB ≠ dT; omega, by show eB ≠ dB; omega, s1, s2, s3, s4⟩
    show p.1 ≠ l ∧ p.1 ≠ dT ∧ p.1 ≠ dB ∧ p.1 ≠ eT ∧ p.1 ≠ eB
    rcases List.mem_cons.mp hp with rfl | hp
    · refine ⟨neN ?_, neN ?_, neN ?_, neN ?_, neN ?_⟩ <;> dsimp only <;> omega
    · rcases List.mem_cons.mp hp with rfl | hp
      · refine ⟨neN ?_, neN ?_, neN ?_, neN ?_, neN ?_⟩ <;> dsimp only <;> omega
      · rcases List.mem_cons.mp hp with rfl | hp
        · refine ⟨neN ?_, neN ?_, neN ?_, neN ?_, neN ?_⟩ <;> dsimp only <;> omega
        · rcases List.mem_cons.mp hp with rfl | hp
          · refine ⟨neN ?_, neN ?_, neN ?_, neN ?_, neN ?_⟩ <;> dsimp only <;> omega
          · have := hc p hp
            refine ⟨neN ?_, neN ?_, neN ?_, neN ?_, neN ?_⟩ <;> omega
  refine while_ind (SameI prog w h₀ env.locals ⟨l, x, dx, y, dy, dT, dB, eT, eB, t1, t2, t3, t4⟩ news (sameP [(k, k')] ⟨[], [], [], []⟩) s) (fun p => left p.1) (x := ([(k, k')], ⟨[], [], [], []⟩)) ?_ hE (same_open ok _ (turn0 _) (turn1 _))
  refine ⟨s.heap, s.toks, m, [.ref D], 0, oT, oB, pT, pB, [(D, tup [.ref a, .ref a'] n0)], rfl, SC.frm_of F f1 f2 f3, ?_, ?_, ?_, hS, ?_, ?_, fun p hp => by rw [List.mem_singleton.mp hp]; exact hz', rfl⟩
  · intro p hp
    have hp : p ∈ (l, listOf [Value.ref D].toArray 0) :: (dT, oT) :: (dB, oB) :: (eT, pT) :: (eB, pB) :: (D, tup [.ref a, .ref a'] n0) :: (x, instObj 763 dx) :: (dx, dictOf [fe w.params "there" t1 (.ref dT), fe w.params "back" t2 (.ref dB)] 2) :: (y, instObj 763 dy) :: (dy, dictOf [fe w.params "there" t3 (.ref eT), fe w.params "back" t4 (.ref eB)] 2) :: news := hp
    apply N p
    rcases List.mem_cons.mp hp with rfl | hp
    · exact .head _
    rcases List.mem_cons.mp hp with rfl | hp
    · exact .tail _ (.tail _ (.tail _ (.tail _ (.tail _ (.tail _ (.tail _ (.head _)))))))
    rcases List.mem_cons.mp hp with rfl | hp
    · exact .tail _ (.tail _ (.tail _ (.tail _ (.tail _ (.tail _ (.head _))))))
    rcases List.mem_cons.mp hp with rfl | hp
    · exact .tail _ (.tail _ (.tail _ (.head _)))
    rcases List.mem_cons.mp hp with rfl | hp
    · exact .tail _ (.tail _ (.head _))
    rcases List.mem_cons.mp hp with rfl | hp
    · exact .tail _ (.head _)
    rcases List.mem_cons.mp hp with rfl | hp
    · exact .tail _ (.tail _ (.tail _ (.tail _ (.tail _ (.tail _ (.tail _ (.tail _ (.head _))))))))
    rcases List.mem_cons.mp hp with rfl | hp
    · exact .tail _ (.tail _ (.tail _ (.tail _ (.tail _ (.tail _ (.tail _ (.tail _ (.tail _ (.head _)))))))))
    rcases List.mem_cons.mp hp with rfl | hp
    · exact .tail _ (.tail _ (.tail _ (.tail _ (.head _))))
    rcases List.mem_cons.mp hp with rfl | hp
    · exact .tail _ (.tail _ (.tail _ (.tail _ (.tail _ (.head _)))))
    exact .tail _ (.tail _ (.tail _ (.tail _ (.tail _ (.tail _ (.tail _ (.tail _ (.tail _ (.tail _ hp)))))))))
  · intro p hp
    rw [List.mem_singleton.mp hp]
    show D ≠ l ∧ D ≠ dT ∧ D ≠ dB ∧ D ≠ eT ∧ D ≠ eB
    refine ⟨neN ?_, neN ?_, neN ?_, neN ?_, neN ?_⟩ <;> omega
  · have sub : ∀ p ∈ news, p ∈ [(D, tup [.ref a, .ref a'] n0)] ++ SC.base ⟨l, x, dx, y, dy, dT, dB, eT, eB, t1, t2, t3, t4⟩ w.params news := fun p hp => List.mem_append_right _ (.tail _ (.tail _ (.tail _ (.tail _ hp))))
    exact ⟨D, a, a', n0, [], rfl, List.mem_append_left _ (.head _), NodeIn.mono sub _ _ h1, NodeIn.mono sub _ _ h2, rfl⟩
  · exact ⟨Nat.zero_le _, Nat.zero_le _, Nat.zero_le _, Nat.zero_le _⟩
  · show k.size + 0 ≤ 200; omega
end
theorem sub_base {c : SC} {P : Params} {news tl : List (Addr × Obj)} {x1 x2 x3 x4 x5 : Addr × Obj} : ∀ p ∈ news, p ∈ x1 :: x2 :: x3 :: x4 :: x5 :: (tl ++ c.base P news) := fun _ hp => .tail _ (.tail _ (.tail _ (.tail _ (.tail _ (List.mem_append_right _ (.tail _ (.tail _ (.tail _ (.tail _ hp)))))))))
theorem KH.partsF {prog : Program} {w : World} {A : Around} {E : Value → Shared → Prop} {s : Shared} {h₀ : Heap} {L : Addr} {m : Str → Option Value} {news news' : List (Addr × Obj)} {h : KH} {a d : Nat} {o : Obj} {vs : List Value} {pl : Sem Bool} {Q : Value × List Value → Shared → Prop} (F : Fr h₀ L s.heap m) (X : (hd.heap_1 w.params).In h₀) (N : News h₀ L s.heap news) (hm : (a, instObj h.cls d) ∈ news) (ho : (d, o) ∈ news) (hf : FldIn w.params news' h o vs)
    (hq : ∀ f : Nat, f = h.partsFn → Q (.ref f, [.ref a]) s) : wpAny (model prog w) A (getMethod (.ref a) "parts" pl) Q E s := meth_parts F X N hm ho hf (hq _ rfl)
theorem keep_parts {P : Params} {h : KH} {f : Nat} (hf : f = h.partsFn) : keepIn (hd.heap_1 P) (.ref f) = true := by
  have hfill9 : PySem.Challenge.rw_on0297_01 = PySem.Challenge.rw_on0297_01 ∧ hd.heap_1 = hd.heap_1 := by
    k_fill
    exact ⟨rfl, rfl⟩
  clear hfill9
  subst hf
  have h35 : keepIn (hd.heap_1 P) (.ref 35) = true := by k_is
  have h127 : keepIn (hd.heap_1 P) (.ref 127) = true := by k_is
  have h160 : keepIn (hd.heap_1 P) (.ref 160) = true := by k_is
  have h193 : keepIn (hd.heap_1 P) (.ref 193) = true := by k_is
  have h226 : keepIn (hd.heap_1 P) (.ref 226) = true := by k_is
  have h259 : keepIn (hd.heap_1 P) (.ref 259) = true := by k_is
  have h306 : keepIn (hd.heap_1 P) (.ref 306) = true := by k_is
  have h339 : keepIn (hd.heap_1 P) (.ref 339) = true := by k_is
  have h372 : keepIn (hd.heap_1 P) (.ref 372) = true := by k_is
  have h405 : keepIn (hd.heap_1 P) (.ref 405) = true := by k_is
  cases h with
  | const _ => exact h35
  | loc _ => exact h35
  | glob _ => exact h35
  | setl _ => exact h127
  | setg _ => exact h160
  | defn _ => exact h193
  | iff => exact h226
  | lam _ _ _ => exact h259
  | call => exact h306
  | seq => exact h339
  | prim _ => exact h372
  | fix _ => exact h405
theorem parts_specF (prog : Program) (w : World) (f : Nat) (h : KH) (hf' : f = h.partsFn) (a d : Nat) (o : Obj) (vs : List Value) (news : List (Addr × Obj)) (hm : (a, instObj h.cls d) ∈ news) (ho : (d, o) ∈ news) (hf : FldIn w.params news h o vs) (hz : vs.length ≤ 1000) (hr : ∀ v ∈ vs, ∃ c : Nat, v = .ref c) :
    CallsTo prog w (hd.heap_1 w.params) f [.ref a] news 6 300 (ListPost vs news) := by
  subst hf'
  exact parts_spec prog w h a d o vs news hm ho hf hz hr
theorem zip_right {ks ks' : List K} {ps : List (K × K)} (h1 : K.sizes ks' ≤ 1000) (h2 : ∀ p ∈ ps, p.2.size ≤ 1000) : ∀ p ∈ ks.zip ks' ++ ps, p.2.size ≤ 1000 := by
  have g : ∀ (l : List K) (k : K), k ∈ l → k.size ≤ K.sizes l := by
    intro l
    induction l with
    | nil => intro k hk; cases hk
    | cons x l ih =>
      intro k hk
      rw [K.sizes]
      rcases List.mem_cons.mp hk with rfl | hk
      · omega
      · have := ih k hk; omega
  intro p hp
  rcases List.mem_append.mp hp with hp | hp
  · exact Nat.le_trans (g ks' p.2 (List.of_mem_zip hp).2) h1
  · exact h2 p hp
section
variable {prog : Program} {w : World} {h₀ h9 : Heap} {L : Addr} {m : Str → Option Value} {news X tl tl2 : List (Addr × Obj)} {c : SC} {us : List Value} {n1 tk : Nat} {oT oB pT pB : Obj} {h h' : KH} {ks ks' : List K} {ps : List (K × K)} {S S' : LS} {b : Bool} {s₀ : Shared} {Q : Flow → Shared → Prop}
theorem same_next (F : Fr h₀ L h9 m) (f1 : m "numbers" = some (.ref c.x)) (f2 : m "labels" = some (.ref c.y)) (f3 : m "waiting" = some (.ref c.l)) (N : News h₀ L h9 ((c.l, listOf us.reverse.toArray n1) :: (tl2 ++ X)))
    (sub : ∀ p ∈ (c.dT, oT) :: (c.dB, oB) :: (c.eT, pT) :: (c.eB, pB) :: (tl ++ c.base w.params news), p ∈ X) (h1 : ∀ p ∈ tl2, p.1 ≠ c.l) (h2 : ∀ p ∈ tl2, ∀ q ∈ X, q.1 ≠ p.1) (off6 : ∀ p ∈ tl, c.off p.1)
    (W : WaitIn w.params (tl2 ++ (tl ++ c.base w.params news)) us (ks.zip ks' ++ ps)) (hS' : LikeDicts prog w oT oB pT pB S') (e : alike h h' S = some S') (hl : ks.length = ks'.length) (hsm : h.small)
    (fit : S.fits (850 - 4 * left ((K.node h ks, K.node h' ks') :: ps))) (small : left ((K.node h ks, K.node h' ks') :: ps) ≤ 200) (right : ∀ p ∈ (K.node h ks, K.node h' ks') :: ps, p.2.size ≤ 1000) (ans : sameP ((K.node h ks, K.node h' ks') :: ps) S = b) :
    WhEnd (SameI prog w h₀ L c news b s₀) (fun p => left p.1) Q ((K.node h ks, K.node h' ks') :: ps, S) .next { s₀ with heap := h9, toks := tk } := by
  have z5 : left ((K.node h ks, K.node h' ks') :: ps) = K.sizes ks + 1 + left ps := rfl
  have z6 := @left_app ks ks' ps
  have z7 : K.sizes ks' + 1 ≤ 1000 := right _ (.head _)
  have g := alike_fits hsm e fit
  refine ⟨(ks.zip ks' ++ ps, S'), by show left (ks.zip ks' ++ ps) < left ((K.node h ks, K.node h' ks') :: ps); omega, h9, tk, m, us, n1, oT, oB, pT, pB, tl2 ++ tl, rfl, SC.frm_of F f1 f2 f3, ?_, ?_, ?_, hS', ?_, ?_, ?_, ?_⟩
  · intro p hp
    apply N p
    unfold SC.led at hp
    rcases List.mem_cons.mp hp with rfl | hp
    · exact .head _
    · refine .tail _ ?_
      rcases List.mem_cons.mp hp with rfl | hp
      · exact List.mem_append_right _ (sub _ (.head _))
      rcases List.mem_cons.mp hp with rfl | hp
      · exact List.mem_append_right _ (sub _ (.tail _ (.head _)))
      rcases List.mem_cons.mp hp with rfl | hp
      · exact List.mem_append_right _ (sub _ (.tail _ (.tail _ (.head _))))
      rcases List.mem_cons.mp hp with rfl | hp
      · exact List.mem_append_right _ (sub _ (.tail _ (.tail _ (.tail _ (.head _)))))
      rw [List.append_assoc] at hp
      rcases List.mem_append.mp hp with hp | hp
      · exact List.mem_append_left _ hp
      · exact List.mem_append_right _ (sub _ (.tail _ (.tail _ (.tail _ (.tail _ hp)))))
  · intro p hp
    rcases List.mem_append.mp hp with hp | hp
    · exact ⟨h1 p hp, Ne.symm (h2 p hp _ (sub _ (.head _))), Ne.symm (h2 p hp _ (sub _ (.tail _ (.head _)))), Ne.symm (h2 p hp _ (sub _ (.tail _ (.tail _ (.head _))))), Ne.symm (h2 p hp _ (sub _ (.tail _ (.tail _ (.tail _ (.head _))))))⟩
    · exact off6 p hp
  · show WaitIn w.params ((tl2 ++ tl) ++ c.base w.params news) us (ks.zip ks' ++ ps)
    rw [List.append_assoc]; exact W
  · obtain ⟨g1, g2, g3, g4⟩ := g
    show S'.fits (850 - 4 * left (ks.zip ks' ++ ps))
    exact ⟨by omega, by omega, by omega, by omega⟩
  · show left (ks.zip ks' ++ ps) ≤ 200; omega
  · exact zip_right (by omega) fun p hp => right p (.tail _ hp)
  · show sameP (ks.zip ks' ++ ps) S' = b
    rw [← sameP_step e hl]; exact ans
theorem rev_fits (h : us.length ≤ 1000) : us.reverse.toArray.size ≤ sizeLine := by
  rw [List.size_toArray, List.length_reverse, PySem.sizeLine_eq]; omega
end
theorem sub_base7 {c : SC} {P : Params} {news tl : List (Addr × Obj)} {x1 x2 x3 x4 x5 x6 x7 : Addr × Obj} : ∀ p ∈ news, p ∈ x1 :: x2 :: x3 :: x4 :: x5 :: x6 :: x7 :: (tl ++ c.base P news) := fun _ hp => .tail _ (.tail _ (sub_base _ hp))
theorem WhEnd.ret {σ : Type} {Inv : σ → Shared → Prop} {ms : σ → Nat} {Q : Flow → Shared → Prop} {x : σ} {v : Value} {s : Shared} (h : Q (.ret v) s) : WhEnd Inv ms Q x (.ret v) s := h
theorem hl_X {l q q' dT dB eT eB : Nat} {o o' oT oB pT pB : Obj} {rest : List (Addr × Obj)} (h1 : q ≠ l) (h2 : q' ≠ l) (k1 : dT ≠ l) (k2 : dB ≠ l) (k3 : eT ≠ l) (k4 : eB ≠ l) (h : ∀ p ∈ rest, p.1 ≠ l) : ∀ p ∈ (q, o) :: (q', o') :: (dT, oT) :: (dB, oB) :: (eT, pT) :: (eB, pB) :: rest, p.1 ≠ l := fun p hp => by
  rcases List.mem_cons.mp hp with rfl | hp
  · exact h1
  rcases List.mem_cons.mp hp with rfl | hp
  · exact h2
  rcases List.mem_cons.mp hp with rfl | hp
  · exact k1
  rcases List.mem_cons.mp hp with rfl | hp
  · exact k2
  rcases List.mem_cons.mp hp with rfl | hp
  · exact k3
  rcases List.mem_cons.mp hp with rfl | hp
  · exact k4
  exact h p hp
theorem dicts_of {prog : Program} {w : World} {oT oB pT pB : Obj} {h h' : KH} {S S' : LS} (g : ∀ S', alike h h' S = some S' → LikeDicts prog w oT oB pT pB S') (e : alike h h' S = some S') : LikeDicts prog w oT oB pT pB S' := g _ e

theorem kw64 : True := by
  k_with "k_mem" => (first | (first | exact List.Mem.head _ | (refine' List.mem_cons_of_mem _ ?_; k_mem) | with_reducible assumption) | fail)
  k_with "my exec Assign" => (k_fold)
  k_with "my exec If" => (k_fold)
  k_with "my exec Return" => (k_fold)
  k_with "my exec Expr" => (k_fold)
  k_with "my storeName" => ((k_here; k_dflt (refine' storeX_L ?FQ202 ?NQ202 ?_ ?aQ202 ?bQ202; (case FQ202 => k_asm); (case NQ202 => k_asm); (case aQ202 => rfl); (case bQ202 => rfl); k_whole; intro h'ZZ F'ZZ N'ZZ; (try k_sweep)); (refine let_m F'ZZ ?_); clear F'ZZ; intro m'ZZ F'ZZ))
  k_with "k_ne" => (first | ((refine neN ?_; (try dsimp only); first | with_reducible assumption | exact Ne.symm (by with_reducible assumption) | exact neC (by k_asm) (by k_mem) (by k_mem) tl_ne)) | fail)
  k_with "my exec While" => (((fail_if_success (with_reducible rename Mk2 => q9ZZ)); refine Stop.out ?_))
  k_with "my pyIter ref" => (((fail_if_success (with_reducible rename Mk3 => q9ZZ)); refine Stop.out ?_))
  k_with "my WhlIf" => (first | refine WhlIf.yes (by with_reducible assumption) ?_ | refine WhlIf.no (by with_reducible assumption) ?_)
  k_with "my call builtin:len" => ((k_here; (with_reducible show wpAny _ _ (call (Value.builtin "len") [Value.ref _]) _ _ _); k_dflt (refine' len_lst ?NQ207 ?aQ207 ?kQ207 ?zQ207 ?_; (case NQ207 => k_asm); (case aQ207 => k_mem); (case kQ207 => with_reducible assumption); (case zQ207 => with_reducible assumption)); intro tk'ZZ tk''ZZ))
  k_with "my call builtin:list.pop" => ((k_here; (with_reducible show wpAny _ _ (call (Value.builtin _) [Value.ref _]) _ _ _); k_dflt (refine' kl_pop ?FQ208 ?NQ208 (pop_last _ _) ?UQ208 ?zQ208 ?_; (case FQ208 => k_asm); (case NQ208 => k_asm); (case UQ208 => k_upd); (case zQ208 => with_reducible assumption)); (intro h'ZZ F'ZZ N'ZZ)))
  k_with "my assign Tuple" => ((k_here; (with_reducible show wpAny _ _ (assign (Expr.Tuple _ _ _) _ (Value.ref _)) _ _ _); k_dflt (refine' unpackN_ ?k1Q209 ?k2Q209 ?k3Q209 ?k4Q209 ?k5Q209 ?k6Q209 ?_; (case k1Q209 => k_asm); (case k2Q209 => k_asm); (case k3Q209 => exact News.isTup (by k_asm) (by k_mem)); (case k4Q209 => exact rfl); (case k5Q209 => exact rfl); (case k6Q209 => exact rfl); k_whole); intro h'ZZ F'ZZ N'ZZ; (try k_sweep)))
  k_with "my getAttr ref" => ((k_here; (with_reducible show wpAny _ _ (getAttr (Value.ref _) (Str.ofString "kind") _) _ _ _); k_dflt (refine' attr_kind ?FQ210 ?XQ210 ?NQ210 ?mQ210 ?oQ210 ?fQ210 ?_; (case FQ210 => k_asm); (case XQ210 => k_asm); (case NQ210 => k_asm); (case mQ210 => k_mem); (case oQ210 => k_mem); (case fQ210 => with_reducible assumption)); intro t'ZZ tk'ZZ))
  k_with "my getMethod ref" => ((k_here; (with_reducible show wpAny _ _ (getMethod (Value.ref _) (Str.ofString "parts") _) _ _ _); k_dflt (refine' KH.partsF ?FQ211 ?XQ211 ?NQ211 ?mQ211 ?oQ211 ?fQ211 ?_; (case FQ211 => k_asm); (case XQ211 => k_asm); (case NQ211 => k_asm); (case mQ211 => k_mem); (case oQ211 => k_mem); (case fQ211 => with_reducible assumption)); intro f8ZZ hf8ZZ))
  k_with "my call ref" => ((k_here; (with_reducible show wpAny _ _ (call (Value.ref 774) [_, _, _, _]) _ _ _); k_dflt (refine' heads_use ?hfQ212 ?hkQ212 ?BQ212 ?FQ212 ?XQ212 ?NQ212 ?TQ212 (like_one ?hnQ212) (like_one ?hlQ212) ?e1Q212 ?e2Q212 ?e3Q212 ?e4Q212 ?n1Q212 ?n2Q212 ?n3Q212 ?n4Q212 ?hSQ212 ?hTQ212 ?hBQ212 ?hUQ212 ?hVQ212 ?hkkQ212 (List.mem_cons_of_mem _ ?hmQ212) (List.mem_cons_of_mem _ ?hoQ212) (FldIn.mono (fun _ hp => List.mem_cons_of_mem _ hp) ?hflQ212) (List.mem_cons_of_mem _ ?hm'Q212) (List.mem_cons_of_mem _ ?ho'Q212) (FldIn.mono (fun _ hp => List.mem_cons_of_mem _ hp) ?hfl'Q212) ?hrQ212 ?hr'Q212 ?hd1Q212 ?hu1Q212 ?_; (case hfQ212 => rfl); (case hkQ212 => first | rfl | assumption); (case BQ212 => k_asm); (case FQ212 => k_asm); (case XQ212 => k_in); (case NQ212 => k_asm); (case TQ212 => k_asm); (case hnQ212 => with_reducible assumption); (case hlQ212 => with_reducible assumption); (case e1Q212 => tbn_lt); (case e2Q212 => tbn_lt); (case e3Q212 => tbn_lt); (case e4Q212 => tbn_lt); (case n1Q212 => with_reducible assumption); (case n2Q212 => with_reducible assumption); (case n3Q212 => with_reducible assumption); (case n4Q212 => with_reducible assumption); (case hSQ212 => with_reducible assumption); (case hTQ212 => with_reducible assumption); (case hBQ212 => with_reducible assumption); (case hUQ212 => with_reducible assumption); (case hVQ212 => with_reducible assumption); (case hmQ212 => with_reducible assumption); (case hoQ212 => with_reducible assumption); (case hflQ212 => with_reducible assumption); (case hm'Q212 => with_reducible assumption); (case ho'Q212 => with_reducible assumption); (case hfl'Q212 => with_reducible assumption); (case hrQ212 => with_reducible assumption); (case hr'Q212 => with_reducible assumption); (case hkkQ212 => exact Eq.symm (by with_reducible assumption)); (case hd1Q212 => k_room); (case hu1Q212 => ke_room)); intro oT'ZZ oB'ZZ pT'ZZ pB'ZZ h'ZZ tk'ZZ F'ZZ N'ZZ hS'ZZ; (try k_sweep)))
  k_with "my call" => ((k_here; (with_reducible show wpAny _ _ (call (Value.ref _) [Value.ref _]) _ _ _); k_dflt (refine' list_use (parts_specF _ _ _ _ ?c0Q213 _ _ _ _ _ ?c1Q213 ?c2Q213 ?c3Q213 ?c4Q213 ?c5Q213) ?hfQ213 ?hkQ213 ?BQ213 ?FQ213 ?XQ213 ?NQ213 ?TQ213 ?hd1Q213 ?hu1Q213 ?_; (case hfQ213 => rfl); (case hkQ213 => first | rfl | assumption); (case BQ213 => k_asm); (case FQ213 => k_asm); (case XQ213 => k_in); (case NQ213 => k_asm); (case c0Q213 => with_reducible assumption); (case c1Q213 => k_mem); (case c2Q213 => k_mem); (case c3Q213 => (refine' FldIn.mono ?x9Q213 ?y9Q213; (case y9Q213 => with_reducible assumption); (case x9Q213 => tb_start))); (case c4Q213 => with_reducible assumption); (case c5Q213 => with_reducible assumption); (case TQ213 => k_asm); (case hd1Q213 => k_room); (case hu1Q213 => ke_room)); intro q8ZZ n8ZZ h'ZZ tk'ZZ F'ZZ N'ZZ l1ZZ; (try k_sweep)))
  k_with "my call ref" => ((k_here; (with_reducible show wpAny _ _ (call (Value.ref _) [Value.ref _]) _ _ _); k_dflt (refine' list_use (parts_specF _ _ _ _ ?c0Q214 _ _ _ _ _ ?c1Q214 ?c2Q214 ?c3Q214 ?c4Q214 ?c5Q214) ?hfQ214 ?hkQ214 ?BQ214 ?FQ214 ?XQ214 ?NQ214 ?TQ214 ?hd1Q214 ?hu1Q214 ?_; (case hfQ214 => rfl); (case hkQ214 => first | rfl | assumption); (case BQ214 => k_asm); (case FQ214 => k_asm); (case XQ214 => k_in); (case NQ214 => k_asm); (case c0Q214 => with_reducible assumption); (case c1Q214 => k_mem); (case c2Q214 => k_mem); (case c3Q214 => (refine' FldIn.mono ?x9Q214 ?y9Q214; (case y9Q214 => with_reducible assumption); (case x9Q214 => tb_start))); (case c4Q214 => with_reducible assumption); (case c5Q214 => with_reducible assumption); (case TQ214 => k_asm); (case hd1Q214 => k_room); (case hu1Q214 => ke_room)); intro q8ZZ n8ZZ h'ZZ tk'ZZ F'ZZ N'ZZ l1ZZ; (try k_sweep)))
  k_with "my callWith" => ((k_here; k_dflt (refine' callWith_K0 ?k1Q215 (keep_parts ?k2Q215) ?_; (case k1Q215 => k_in); (case k2Q215 => with_reducible assumption)); k_dflt (show wpAny _ _ (call (Value.ref _) [Value.ref _]) _ _ _)))
  k_with "my callWith ref" => ((k_here; k_dflt (refine' callWith_K0 ?k1Q216 (keep_parts ?k2Q216) ?_; (case k1Q216 => k_in); (case k2Q216 => with_reducible assumption)); k_dflt (show wpAny _ _ (call (Value.ref _) [Value.ref _]) _ _ _)))
  k_with "my newTuple" => (((with_reducible rename Mk3 => mk8ZZ); k_here; k_dflt (refine' kup_newTuple ?FQ217 ?NQ217 ?_ ?zQ217; (case FQ217 => k_asm); (case NQ217 => k_asm); (case zQ217 => kmk_size)); intro D'ZZ h'ZZ F'ZZ N'ZZ l1ZZ; (try k_sweep)))
  k_with "my call builtin:list.append" => ((k_here; (with_reducible show wpAny _ _ (call (Value.builtin _) [Value.ref _, _]) _ _ _); k_dflt (refine' append_K ?FQ218 ?NQ218 ?UQ218 ?_ ?zQ218; (case FQ218 => k_asm); (case NQ218 => k_asm); (case UQ218 => k_upd); (case zQ218 => exact rev_fits (by with_reducible assumption))); (intro h'ZZ F'ZZ N'ZZ)))
  k_with "my subscriptTail Name Name ref int" => ((k_here; (with_reducible show wpAny _ _ (subscriptTail _ _ (Value.ref _) (Value.int _ _)) _ _ _); k_dflt (refine' item_lst ?NQ219 ?mQ219 ?aQ219 ?bQ219 ?cQ219 ?_ ?dQ219; (case NQ219 => k_asm); (case mQ219 => k_mem); (case aQ219 => exact Int.natCast_nonneg _); (case bQ219 => exact ix_small (by with_reducible assumption) (by with_reducible assumption)); (case cQ219 => exact nthV_nat (by with_reducible assumption)); (case dQ219 => with_unfolding_all rfl); k_whole)))
  trivial
theorem same_spec (prog : Program) (w : World) (k k' : K) (a a' : Nat) (news : List (Addr × Obj)) (h1 : NodeIn w.params news k (.ref a)) (h2 : NodeIn w.params news k' (.ref a')) (hz : k.size ≤ 200) (hz' : k'.size ≤ 1000) :
    CallsTo prog w (hd.heap_1 w.params) 781 [.ref a, .ref a'] news 60 2500 (SamePost (sameP [(k, k')] ⟨[], [], [], []⟩) news) := by
  have hfill9 : PySem.Challenge.rw_on0297_01 = PySem.Challenge.rw_on0297_01 ∧ hd.heap_1 = hd.heap_1 := by
    k_fill
    exact ⟨rfl, rfl⟩
  clear hfill9
  rintro p loose mean mg mb dp un gd ⟨⟨_, nm, ig, ic, mo⟩, lo, gl, ce, qu, fu, co, _, bu⟩ outer A₀ base h₀ L m s Q E rfl rfl B F X N T hd1 hu1 hret
  refine wpAny_call ?_
  k_dflt k_enter
  refine let_env ?_
  intro env9
  k_steps
  refine Stop.into ?_
  (rename News _ _ _ _ => N9); (rename Fr _ _ _ _ => F9)
  k_dflt (refine' same_start (k := k) (k' := k') F9 N9 ?f1 ?f2 ?f3 ?c0 ?c1 ?c2 ?c3 ?c4 ?c5 ?c6 ?c7 ?c8 ?c9 ?s1 ?s2 ?s3 ?s4 ?S h1 h2 hz hz' ?hE ?turn0 ?turn1)
  case f1 => rfl
  case f2 => rfl
  case f3 => rfl
  case hE => first | passes_own | with_unfolding_all passes_own
  case s1 => with_reducible assumption
  case s2 => with_reducible assumption
  case s3 => with_reducible assumption
  case s4 => with_reducible assumption
  case c0 => with_reducible assumption
  case c1 => with_reducible assumption
  case c2 => with_reducible assumption
  case c3 => with_reducible assumption
  case c4 => with_reducible assumption
  case c5 => with_reducible assumption
  case c6 => with_reducible assumption
  case c7 => with_reducible assumption
  case c8 => with_reducible assumption
  case c9 => with_reducible assumption
  case S => exact ⟨⟨⟨_, by assumption, by assumption⟩, Nat.zero_le _⟩, ⟨⟨_, by assumption, by assumption⟩, Nat.zero_le _⟩, ⟨⟨_, by assumption, by assumption⟩, Nat.zero_le _⟩, ⟨⟨_, by assumption, by assumption⟩, Nat.zero_le _⟩⟩
  case turn0 =>
    clear N9 F9
    intro c S6 m6 n6 oT oB pT pB tl h6 tk6 F6 N6 ans6
    unfold TurnGoal
    have mk9 := Mk2.mk
    have z1 : ([] : List Value).reverse.length = 0 := rfl
    have z2 : 0 ≤ 100000 := Nat.zero_le _
    have z3 : decide ((0 : Int) < ((0 : Nat) : Int)) = false := rfl
    k_steps
    (rename Fr h₀ L _ m => F9); (rename News h₀ L _ _ => N9)
    exact hret _ _ _ _ F9 (news_sub N9 sub_base) ⟨by rw [ans6], rfl⟩
  case turn1 =>
    clear N9 F9
    intro c h h' ks ks' ps S6 h6 tk6 m6 t6 a6 a7 n7 d6 d7 n5 n6 o6 o7 r6 vs6 vs7 oT oB pT pB tl F6 N6 off6 w1 b1 b2 b3 b4 b5 b6 b7 b8 w4 z1 z2 z3 z8 hn6 hl6 ho6 k1 k2 k3 k4 n1 n2 n3 n4 hS6 y5 y6 y7 y8 hr6 hr7 x1 x2 x5 x6 x7 x8 x9 sm6 fit7 small6 right6 ans6
    unfold TurnGoal
    have mk9 := Mk2.mk
    k_steps
    · refine WhEnd.ret ?_
      k_steps
      (rename Fr h₀ L _ m => F9); (rename News h₀ L _ _ => N9); (rename h.kind ≠ h'.kind => e9)
      exact hret _ _ _ _ F9 (news_sub N9 sub_base) ⟨by rw [← ans6, sameP_none (alike_kind (Ne.symm e9))], rfl⟩
    · refine WhEnd.ret ?_
      (rename (alike h h' S6).isSome = true => e8)
      (rename ((ks.length : Nat) : Int) ≠ ((ks'.length : Nat) : Int) => e9)
      obtain ⟨S7, e7⟩ := Option.isSome_iff_exists.mp e8
      k_steps
      (rename Fr h₀ L _ m => F9); (rename News h₀ L _ _ => N9)
      exact hret _ _ _ _ F9 (news_sub N9 sub_base7) ⟨by rw [← ans6, sameP_len e7 (by omega)], rfl⟩
    · refine Stop.into ?_
      have mk8 := Mk3.mk
      (rename (alike h h' S6).isSome = true => e8)
      (rename ((ks.length : Nat) : Int) = ((ks'.length : Nat) : Int) => e9)
      (rename Fr _ _ _ _ => F9); (rename News _ _ _ _ => N9)
      obtain ⟨S7, e7⟩ := Option.isSome_iff_exists.mp e8
      have el : ks'.length = ks.length := by omega
      k_dflt (refine' push_loop (n := ks.length) (ks := ks) (ks' := ks') (l := c.l) (rs := r6) (ps := ps) (vs := vs6) (vs' := vs7) (Y := tl ++ c.base w.params news) ?hh ?hr F9 (Ext.news ?e N9) ?hl ?sub w4 rfl el b4 b8 (by with_reducible assumption) ?turn ?done)
      case hh => rfl
      case hr => assumption
      case e => tbn_lt
      case hl => exact hl_X (q_ne (by with_reducible assumption) (by k_mem)) (q_ne (by with_reducible assumption) (by k_mem)) k1 k2 k3 k4 ho6
      case sub => tb_start
      case turn =>
        intro i j t us n1 c9 c8 h tk R hi hj v1 v2 hu hs hR F9 N9
        have q1 := hs _ (List.Mem.head _)
        have q2 := hs _ (List.Mem.tail _ (List.Mem.head _))
        k_steps
        exact ⟨_, _, _, _, _, rfl, by k_asm, by k_asm, by with_reducible assumption⟩
      case done =>
        intro u us n1 tl2 h tk F9 N9 g1 g2 W9
        k_steps
        refine' same_next F9 rfl rfl rfl N9 ?_ g1 g2 off6 W9 (dicts_of (by with_reducible assumption) e7) e7 (by omega) sm6 fit7 small6 right6 ans6
        tb_start
    · refine WhEnd.ret ?_
      (rename (alike h h' S6).isSome = false => e8)
      k_steps
      (rename Fr h₀ L _ m => F9); (rename News h₀ L _ _ => N9)
      exact hret _ _ _ _ F9 (news_sub N9 sub_base) ⟨by rw [← ans6, sameP_none (Option.isSome_eq_false_iff.mp e8 |> Option.isNone_iff_eq_none.mp)], rfl⟩
end
section
set_option maxHeartbeats 1000000
theorem kw66 : True := by
  k_with_none
  k_with "ke_room" => (first | ((have hcL9ZZ := cLine_is; simp only [units_in1, units_deeper, Around.mark_units, units_caller]; (try dsimp only [arTop]); omega)) | fail)
  k_with "k_units" => (first | (ke_room) | fail)
  k_with "units_room" => (first | (ke_room) | fail)
  k_with "k_room" => (first | (((try simp only [depth_under_make, depth_under_kw, depth_in1, depth_deeper, depth_caller]); (try dsimp only [arTop]); (try simp only [recursionLimit]); omega)) | fail)
  k_with "ktr_room" => (first | (k_room) | fail)
  k_with "ktr_member" => (first | (first | exact allLt_ne (by with_reducible assumption) | exact allLt_ne1 (by with_reducible assumption) | exact allLt_ne2 (by with_reducible assumption) | exact off3_I (by with_reducible assumption) | exact off3_C (by with_reducible assumption) | exact off3_D (by with_reducible assumption) | exact off1_D (by with_reducible assumption)) | fail)
  k_with "k_ne" => (first | ((refine neN ?_; (try dsimp only); first | with_reducible assumption | exact Ne.symm (by with_reducible assumption) | exact Nat.ne_of_lt (by with_reducible assumption) | exact Nat.ne_of_gt (by with_reducible assumption) | omega)) | fail)
  k_with "kst_all" => (first | (first | with_reducible assumption | ktr_member | exact off_app (by first | with_reducible assumption | ktr_member) | exact off_app (off_app (by first | with_reducible assumption | ktr_member)) | exact off_app (off_app (off_app (by first | with_reducible assumption | ktr_member)))) | fail)
  k_with "kst_mem" => (first | ((refine' fil_mem ?aQ9 ?bQ9; (case aQ9 => k_mem); (case bQ9 => k_all))) | fail)
  k_with "kst_p" => (first | ((refine' fil_tree ?aQ10 ?bQ10 ?cQ10; (case aQ10 => with_reducible assumption); (case bQ10 => tb_start); (case cQ10 => exact fr_tl (by with_reducible assumption) (by with_reducible assumption) (by with_reducible assumption) (by with_reducible assumption) (by tb_start)))) | fail)
  k_with "k_all" => (first | (first | exact List.forall_mem_nil _ | (refine' List.forall_mem_cons.mpr ⟨?aQ11, ?bQ11⟩; (case aQ11 => k_ne); (case bQ11 => k_all)) | kst_all) | fail)
  k_with "lcg_off" => (first | (first | exact True.intro | (refine And.intro ⟨?aQ12, ?bQ12, ?cQ12⟩ ?dQ12; (case aQ12 => k_ne); (case bQ12 => k_ne); (case cQ12 => k_ne); (case dQ12 => lcg_off)) | with_reducible assumption | exact off3_of (by first | with_reducible assumption | ktr_member) (by first | with_reducible assumption | ktr_member) (by first | with_reducible assumption | ktr_member)) | fail)
  k_with "tb_rel" => (first | (first | with_reducible assumption | (refine List.mem_cons_of_mem _ ?_; tb_rel) | (refine List.mem_append.mpr (Or.inr ?_); tb_rel) | (refine List.mem_append.mpr (Or.inl ?_); tb_rel)) | fail)
  k_with "tb_start" => (first | ((intro p9ZZ hp9ZZ; tb_rel)) | fail)
  k_with "tbn_lt" => (first | (first | exact Ext.head | (refine' Ext.tail ?aQ15; (case aQ15 => tbn_lt))) | fail)
  k_with "tbn_below" => (first | (first | (refine' Split.cons ?aQ16; (case aQ16 => tbn_below)) | exact Split.base) | fail)
  k_with "tbn_conj" => (first | (first | exact True.intro | (refine' And.intro ?aQ17 ?bQ17; (case aQ17 => first | with_reducible assumption | ktr_member); (case bQ17 => tbn_conj))) | fail)
  k_with "my ite" => ((k_closed; first | (refine' iteBT ?p9Q18 ?_; (case p9Q18 => decide)) | (refine' iteBF ?p9Q18 ?_; (case p9Q18 => decide))))
  k_with "my CompEnd" => ((k_here; k_dflt (refine' comp_end ?FQ19 ?NQ19 ?e1Q19 ?e2Q19 ?e3Q19 ?offQ19 ?_; (case FQ19 => k_asm); (case NQ19 => k_asm); (case e1Q19 => tbn_lt); (case e2Q19 => tbn_lt); (case e3Q19 => tbn_lt); (case offQ19 => lcg_off))))
  k_with "my CompSrc" => ((k_here; k_dflt (refine LCg.CompSrc.range (by rfl) (by k_asm) (by k_asm) (by assumption) (by first | decide | rfl) (by first | rfl | decide) (by first | size_fits | exact Nat.le_of_ble_eq_true rfl) ?_; intro g'ZZ; lcg_lit)))
  k_with "my CompRest" => ((with_unfolding_all first | (refine LCg.CompRest.succ ?_; intro v'ZZ I'ZZ oI'ZZ C'ZZ oC'ZZ D'ZZ m'ZZ h'ZZ tk'ZZ E'ZZ hv'ZZ hC'ZZ hx'ZZ F'ZZ N'ZZ off'ZZ ne'ZZ; (first | lcg_open hv'ZZ | (obtain ⟨t9'ZZ, hv9'ZZ⟩ := hv'ZZ; subst hv9'ZZ)); (try dsimp only [LCg.Off3] at off'ZZ); (refine let_goal ?_); intro G9ZZ; (repeat (with_reducible obtain ⟨⟨_, _, _⟩, off'ZZ⟩ := off'ZZ)); (obtain ⟨_, _, _⟩ := ne'ZZ); k_unfold; clear G9ZZ) | refine LCg.CompRest.zero ?_))
  k_with "my FinE" => (((unfold LCg.FinE); intro D'ZZ h'ZZ tk'ZZ F'ZZ N'ZZ o1'ZZ; (try dsimp only [LCg.Off1] at o1'ZZ); (refine let_goal ?_); intro G9ZZ; (repeat (with_reducible obtain ⟨_, o1'ZZ⟩ := o1'ZZ)); k_unfold; clear G9ZZ; (try simp only [List.nil_append, List.cons_append] at N'ZZ); (try dsimp only)))
  trivial
/-- the inductions -/
theorem tree_spec (prog : Program) (w : World) (x : Int) : TreeSpec prog w x := by
  suffices H : ∀ n (x : Int), x.toNat < n → TreeSpec prog w x from H _ x (Nat.lt_succ_self _)
  intro n
  induction n with
  | zero => intro x h; exact absurd h (Nat.not_lt_zero _)
  | succ n ih => intro x h; exact tree_step prog w x fun y hy => ih y (by omega)
mutual
theorem T.ind {P : T → Prop} (step : ∀ h ts, (∀ t ∈ ts, P t) → P (.node h ts)) : ∀ t : T, P t
  | .node h ts => step h ts (T.inds step ts)
theorem T.inds {P : T → Prop} (step : ∀ h ts, (∀ t ∈ ts, P t) → P (.node h ts)) : ∀ ts : List T, ∀ t ∈ ts, P t
  | [], _, h => nomatch h
  | t :: ts, x, h => (List.mem_cons.mp h).elim (fun e => e ▸ T.ind step t) fun h => T.inds step ts x h
end
theorem sp_spec (prog : Program) (w : World) (t : T) : SpSpec prog w t := T.ind (spoilt_step prog w) t
theorem node_spec (prog : Program) (w : World) (t : T) : NodeSpec prog w t := T.ind (node_step prog w) t
theorem wr_spec (prog : Program) (w : World) (t : T) : WrSpec prog w t := T.ind (wr_step prog w) t
mutual
theorem core_size {sh : Int} : ∀ t : T, (core sh t).size = t.size
  | .node h ts => by rw [core, K.size, T.size, cores_size ts]
theorem cores_size {sh : Int} : ∀ ts : List T, K.sizes (cores sh ts) = T.sizes ts
  | [] => by rw [cores, K.sizes, T.sizes]
  | t :: ts => by rw [cores, K.sizes, T.sizes, core_size t, cores_size ts]
end
/-- all that the law says, in one line -/
theorem law_says {t t' : T} {sh : Int} (h : t.wf 3) (h' : t'.wf 3) : sameP [(core 11 t, core sh t')] ⟨[], [], [], []⟩ = eqd (wrD t [] []) (wrD t' [] []) ∧ sameP [(core sh t', core 11 t)] ⟨[], [], [], []⟩ = eqd (wrD t [] []) (wrD t' [] []) ∧ sameP [(core 11 t, core 11 t)] ⟨[], [], [], []⟩ = true :=
  ⟨plain_law h h', by rw [plain_law h' h, eqd_symm], by rw [plain_law h h, eqd_refl]⟩
mutual
theorem wr_ok : ∀ (t : T) (ms ls : List Int), t.wf 3 → dOk (wrD t ms ls) = true
  | .node h ts, ms, ls, hw => by
    unfold T.wf at hw
    have e : dOk (wrD (.node h ts) ms ls) = (PyData.strOk h.word && (dOk (whatD h ms ls) && (dOks (wrDs ts (msH h ms) (lsH h ls)) && true))) := by rw [wrD]; rfl
    rw [e, wrs_ok ts _ _ hw.2]
    have e1 : PyData.strOk h.word = true := by
      cases h with
      | s w k =>
        show PyData.strOk w = true
        rcases s_words hw.1 with rfl | rfl | rfl | rfl | rfl | rfl | rfl | rfl | rfl <;> decide +kernel
      | lam => exact (by decide +kernel : PyData.strOk "lambda" = true)
      | fix => exact (by decide +kernel : PyData.strOk "fix" = true)
    have io : ∀ l : List Int, dOks (l.map .int) = true := by
      intro l
      induction l with
      | nil => rfl
      | cons x l ih => show (dOk (.int x) && dOks (l.map .int)) = true; rw [ih]; rfl
    have e2 : dOk (whatD h ms ls) = true := by
      cases h with
      | s w k =>
        show dOk (if isLoc w = true then Dat.int (idx1 ms k) else if isNil w = true then Dat.int 0 else Dat.int k) = true
        split
        · rfl
        · split <;> rfl
      | lam l ps r =>
        show (true && ((dOks ((idxs ms (bnd ps r)).map .int)) && (true && true))) = true
        rw [io]; rfl
      | fix k => rfl
    rw [e1, e2]; rfl
theorem wrs_ok : ∀ (ts : List T) (ms ls : List Int), T.wfs 3 ts → dOks (wrDs ts ms ls) = true
  | [], _, _, _ => by rw [wrDs]; rfl
  | t :: ts, ms, ls, hw => by
    unfold T.wfs at hw
    have e : dOks (wrDs (t :: ts) ms ls) = (dOk (wrD t ms ls) && dOks (wrDs ts (msT t ms) (lsT t ls))) := by rw [wrDs]; rfl
    rw [e, wr_ok t _ _ hw.1, wrs_ok ts _ _ hw.2]; rfl
end
mutual
theorem wr_deep : ∀ (t : T) (ms ls : List Int), (kqdP (wrD t ms ls)).depth ≤ 2 * t.depth + 3
  | .node h ts, ms, ls => by
    have e : (kqdP (wrD (.node h ts) ms ls)).depth = max (kqdP (.str h.word)).depth (max (kqdP (whatD h ms ls)).depth (max (PyData.depthAll (kqdPs (wrDs ts (msH h ms) (lsH h ls))) + 1) 0)) + 1 := by rw [wrD]; rfl
    have h1 := wrs_deep ts (msH h ms) (lsH h ls)
    have io : ∀ l : List Int, PyData.depthAll (kqdPs (l.map .int)) = 0 := by
      intro l
      induction l with
      | nil => rfl
      | cons x l ih => show max (PyData.depth (.int x)) (PyData.depthAll (kqdPs (l.map .int))) = 0; rw [ih]; rfl
    have h2 : (kqdP (whatD h ms ls)).depth ≤ 2 := by
      cases h with
      | s w k =>
        show (kqdP (if isLoc w = true then Dat.int (idx1 ms k) else if isNil w = true then Dat.int 0 else Dat.int k)).depth ≤ 2
        split
        · exact Nat.zero_le _
        · split <;> exact Nat.zero_le _
      | lam l ps r =>
        show max 0 (max (PyData.depthAll (kqdPs ((idxs ms (bnd ps r)).map .int)) + 1) (max 0 0)) + 1 ≤ 2
        rw [io]; decide
      | fix k => exact (by decide : (1 : Nat) ≤ 2)
    have h3 : (kqdP (.str h.word)).depth = 0 := rfl
    rw [e, h3, T.depth]
    omega
theorem wrs_deep : ∀ (ts : List T) (ms ls : List Int), PyData.depthAll (kqdPs (wrDs ts ms ls)) ≤ 2 * T.depths ts + 3
  | [], _, _ => by rw [wrDs]; exact Nat.zero_le _
  | t :: ts, ms, ls => by
    have e : PyData.depthAll (kqdPs (wrDs (t :: ts) ms ls)) = max (kqdP (wrD t ms ls)).depth (PyData.depthAll (kqdPs (wrDs ts (msT t ms) (lsT t ls)))) := by rw [wrDs]; rfl
    have h1 := wr_deep t ms ls
    have h2 := wrs_deep ts (msT t ms) (lsT t ls)
    rw [e, T.depths]
    omega
end
end
section
set_option maxHeartbeats 1000000
theorem kw68 : True := by
  k_with_none
  k_with "ke_room" => (first | ((have hcL9ZZ := cLine_is; simp only [units_in1, units_deeper, Around.mark_units, units_caller]; (try dsimp only [arTop]); omega)) | fail)
  k_with "k_units" => (first | (ke_room) | fail)
  k_with "units_room" => (first | (ke_room) | fail)
  k_with "k_room" => (first | (((try simp only [depth_under_make, depth_under_kw, depth_in1, depth_deeper, depth_caller]); (try dsimp only [arTop]); (try simp only [recursionLimit]); omega)) | fail)
  k_with "ktr_room" => (first | (k_room) | fail)
  k_with "ktr_member" => (first | (first | exact allLt_ne (by with_reducible assumption) | exact allLt_ne1 (by with_reducible assumption) | exact allLt_ne2 (by with_reducible assumption) | exact off3_I (by with_reducible assumption) | exact off3_C (by with_reducible assumption) | exact off3_D (by with_reducible assumption) | exact off1_D (by with_reducible assumption)) | fail)
  k_with "k_ne" => (first | ((refine neN ?_; (try dsimp only); first | with_reducible assumption | exact Ne.symm (by with_reducible assumption) | exact Nat.ne_of_lt (by with_reducible assumption) | exact Nat.ne_of_gt (by with_reducible assumption) | omega)) | fail)
  k_with "kst_all" => (first | (first | with_reducible assumption | ktr_member | exact off_app (by first | with_reducible assumption | ktr_member) | exact off_app (off_app (by first | with_reducible assumption | ktr_member)) | exact off_app (off_app (off_app (by first | with_reducible assumption | ktr_member)))) | fail)
  k_with "kst_mem" => (first | ((refine' fil_mem ?aQ9 ?bQ9; (case aQ9 => k_mem); (case bQ9 => k_all))) | fail)
  k_with "kst_p" => (first | ((refine' fil_tree ?aQ10 ?bQ10 ?cQ10; (case aQ10 => with_reducible assumption); (case bQ10 => tb_start); (case cQ10 => exact fr_tl (by with_reducible assumption) (by with_reducible assumption) (by with_reducible assumption) (by with_reducible assumption) (by tb_start)))) | fail)
  k_with "k_all" => (first | (first | exact List.forall_mem_nil _ | (refine' List.forall_mem_cons.mpr ⟨?aQ11, ?bQ11⟩; (case aQ11 => k_ne); (case bQ11 => k_all)) | kst_all) | fail)
  k_with "lcg_off" => (first | (first | exact True.intro | (refine And.intro ⟨?aQ12, ?bQ12, ?cQ12⟩ ?dQ12; (case aQ12 => k_ne); (case bQ12 => k_ne); (case cQ12 => k_ne); (case dQ12 => lcg_off)) | with_reducible assumption | exact off3_of (by first | with_reducible assumption | ktr_member) (by first | with_reducible assumption | ktr_member) (by first | with_reducible assumption | ktr_member)) | fail)
  k_with "tb_rel" => (first | (first | with_reducible assumption | (refine List.mem_cons_of_mem _ ?_; tb_rel) | (refine List.mem_append.mpr (Or.inr ?_); tb_rel) | (refine List.mem_append.mpr (Or.inl ?_); tb_rel)) | fail)
  k_with "tb_start" => (first | ((intro p9ZZ hp9ZZ; tb_rel)) | fail)
  k_with "tbn_lt" => (first | (first | exact Ext.head | (refine' Ext.tail ?aQ15; (case aQ15 => tbn_lt))) | fail)
  k_with "tbn_below" => (first | (first | (refine' Split.cons ?aQ16; (case aQ16 => tbn_below)) | exact Split.base) | fail)
  k_with "tbn_conj" => (first | (first | exact True.intro | (refine' And.intro ?aQ17 ?bQ17; (case aQ17 => first | with_reducible assumption | ktr_member); (case bQ17 => tbn_conj))) | fail)
  k_with "my ite" => ((k_closed; first | (refine' iteBT ?p9Q18 ?_; (case p9Q18 => decide)) | (refine' iteBF ?p9Q18 ?_; (case p9Q18 => decide))))
  k_with "my CompEnd" => ((k_here; k_dflt (refine' comp_end ?FQ19 ?NQ19 ?e1Q19 ?e2Q19 ?e3Q19 ?offQ19 ?_; (case FQ19 => k_asm); (case NQ19 => k_asm); (case e1Q19 => tbn_lt); (case e2Q19 => tbn_lt); (case e3Q19 => tbn_lt); (case offQ19 => lcg_off))))
  k_with "my CompSrc" => ((k_here; k_dflt (refine LCg.CompSrc.range (by rfl) (by k_asm) (by k_asm) (by assumption) (by first | decide | rfl) (by first | rfl | decide) (by first | size_fits | exact Nat.le_of_ble_eq_true rfl) ?_; intro g'ZZ; lcg_lit)))
  k_with "my CompRest" => ((with_unfolding_all first | (refine LCg.CompRest.succ ?_; intro v'ZZ I'ZZ oI'ZZ C'ZZ oC'ZZ D'ZZ m'ZZ h'ZZ tk'ZZ E'ZZ hv'ZZ hC'ZZ hx'ZZ F'ZZ N'ZZ off'ZZ ne'ZZ; (first | lcg_open hv'ZZ | (obtain ⟨t9'ZZ, hv9'ZZ⟩ := hv'ZZ; subst hv9'ZZ)); (try dsimp only [LCg.Off3] at off'ZZ); (refine let_goal ?_); intro G9ZZ; (repeat (with_reducible obtain ⟨⟨_, _, _⟩, off'ZZ⟩ := off'ZZ)); (obtain ⟨_, _, _⟩ := ne'ZZ); k_unfold; clear G9ZZ) | refine LCg.CompRest.zero ?_))
  k_with "my FinE" => (((unfold LCg.FinE); intro D'ZZ h'ZZ tk'ZZ F'ZZ N'ZZ o1'ZZ; (try dsimp only [LCg.Off1] at o1'ZZ); (refine let_goal ?_); intro G9ZZ; (repeat (with_reducible obtain ⟨_, o1'ZZ⟩ := o1'ZZ)); k_unfold; clear G9ZZ; (try simp only [List.nil_append, List.cons_append] at N'ZZ); (try dsimp only)))
  trivial
section
variable {prog : Program} {w : World} {A : Around} {E : Value → Shared → Prop} {s : Shared} {env : Env} {h₀ : Heap} {x y : Str} {body : List Stmt} {Q : Flow → Shared → Prop}
/-- the end of a turn that reckons one int -/
noncomputable def MixEnd (h₀ : Heap) (L : Addr) (x y : Str) (m₀ : Str → Option Value) (news : List (Addr × Obj)) (s₁ : Shared) (f : Flow) (s₂ : Shared) : Prop :=
  match f with
  | .next => ∃ h' tk m' k t, s₂ = { s₁ with heap := h', toks := tk } ∧ Fr h₀ L h' m' ∧ News h₀ L h' news ∧ m' y = some (.int k t) ∧ (∀ z, z ≠ x → z ≠ y → m' z = m₀ z) ∧ MxOk k
  | _ => False
/-- a loop over a list of ints that reckons one int -/
theorem mix_loop {l nn : Nat} {vs : List Value} {ns : List Int} {m₀ : Str → Option Value} {news : List (Addr × Obj)} {k0 : Int} {t0 : Tok}
    (hh : A.handled = none) (hl : (l, listOf vs.toArray nn) ∈ news) (hi : IntsAre vs ns) (F : Fr h₀ env.locals s.heap m₀) (N : News h₀ env.locals s.heap news) (hk : m₀ y = some (.int k0 t0)) (hp : MxOk k0)
    (turn : ∀ k t' n t h tk own, n ∈ ns → MxOk k → Fr h₀ env.locals h (fun z => if z = x then some (.int n t) else if z = y then some (.int k t') else m₀ z) → News h₀ env.locals h (news ++ own) →
      wpAny (model prog w) A (execs body env) (MixEnd h₀ env.locals x y m₀ (news ++ own) { s with heap := h, toks := tk }) E { s with heap := h, toks := tk })
    (done : ∀ k t' u h tk, MxOk k → Fr h₀ env.locals h (fun z => if z = x then u else if z = y then some (.int k t') else m₀ z) → News h₀ env.locals h news → Q .next { s with heap := h, toks := tk }) :
    wpAny (model prog w) A (pyIter (.ref l)) (fun it s₂ => LoopAtV prog w A h₀ env x body Q E it s₂) E s := by
  have em : ∀ (k : Int) (t' : Tok) (u : Option Value) (v : Str → Option Value), (fun z => if z = x then u else kstB (fun z => if ([] : List Str).contains z then v z else m₀ z) [(y, .int k t')] z) = fun z => if z = x then u else if z = y then some (.int k t') else m₀ z := fun _ _ _ _ => rfl
  refine kst_listL (σ := Int × Tok) (fun _ => news) (fun c => [(y, .int c.1 c.2)]) (fun _ => True) [] (fun _ c => MxOk c.1) (k0, t0) hh (fun _ => hl) hi F N trivial (fun p hp => by rw [List.mem_singleton.mp hp]; exact hk) hp ?_ ?_
  · intro c pre post n t u h tk own hn hm _ _ hP F' N'
    rw [em] at F'
    refine wpAny_mono (turn c.1 c.2 n t h tk own hm hP F' N') (fun f s₂ q => ?_) fun _ _ q => q
    cases f with
    | next =>
      obtain ⟨h', tk', m', k, t', rfl, F2, N2, e1, e2, h3⟩ := q
      exact InvEndN.intro F2 N2 ⟨(k, t'), rfl, trivial, fun p hp => by rw [List.mem_singleton.mp hp]; exact e1, fun z hz h2 _ => e2 z hz (h2 _ (.head _)), h3⟩ rfl (fun p hp => List.mem_append_left _ hp) fun p hp => List.mem_append_right _ hp
    | _ => exact q.elim
  · intro c u h tk _ hP F' N'
    have F2 : Fr h₀ env.locals h (fun z => if z = x then u x else if z = y then some (.int c.1 c.2) else m₀ z) := by
      have e : (fun z => if z = x then u x else if z = y then some (Value.int c.1 c.2) else m₀ z) = fun z => if z = x then u z else kstB (fun z => if ([] : List Str).contains z then u z else m₀ z) [(y, .int c.1 c.2)] z := by
        funext z
        by_cases hz : z = x
        · rw [if_pos hz, if_pos hz, hz]
        · rw [if_neg hz, if_neg hz]; rfl
      rw [e]; exact F'
    exact done c.1 c.2 (u x) h tk hP F2 N'
theorem mx_mod (a : Int) : MxOk (a.fmod 2147483647) := by
  unfold MxOk
  rw [Int.fmod_eq_emod_of_nonneg _ (by decide)]
  omega
theorem mx7 : MxOk 7 := ⟨by decide, by decide⟩
end
section
variable {prog : Program} {w : World} {A : Around} {h₀ : Heap} {L : Addr} {m : Str → Option Value} {env : Env} {s : Shared}
noncomputable def FiltEnd (h₀ : Heap) (L : Addr) (m : Str → Option Value) (led : List (Addr × Obj)) (s₁ : Shared) (k : Int) (y : Value) (s₂ : Shared) : Prop :=
  ∃ h' tk t, s₂ = { s₁ with heap := h', toks := tk } ∧ Fr h₀ L h' m ∧ News h₀ L h' led ∧ y = .int k t
noncomputable def KeepEnd (h₀ : Heap) (L : Addr) (m : Str → Option Value) (led : List (Addr × Obj)) (s₁ s₂ : Shared) : Prop :=
  ∃ h' tk, s₂ = { s₁ with heap := h', toks := tk } ∧ Fr h₀ L h' m ∧ News h₀ L h' led
/-- a comprehension over a list of ints that keeps some -/
theorem comp_filt {ct elt : PySem.Expr} {x : Str} {scope : Scope} {cl : List (Str × Addr)} {Fin : Shared → List Value → List (Addr × Obj) → Prop} {ax nn : Nat} {vs : List Value} {ns : List Int} {news : List (Addr × Obj)} {P : Int → Prop}
    (hh : A.handled = none) (F : Fr h₀ L s.heap m) (N : News h₀ L s.heap news) (hm : (ax, listOf vs.toArray nn) ∈ news) (hsz : vs.length ≤ 1000) (hi : IntsAre vs ns) (hP : ∀ n ∈ ns, P n)
    (step : ∀ k t ys I oI C oC D m₂ h tk (E' : Value → Shared → Prop), k ∈ ns → LCg.NsObj oC m₂ → m₂ x = some (.int k t) → Fr h₀ L h m → News h₀ L h ((I, oI) :: (C, oC) :: (D, LCg.lst ys) :: news) →
      wpAny (model prog w) A (isTrue ct (compEnvC scope cl C env) (eval ct (compEnvC scope cl C env))) (fun ok s' => if ok = true then
        wpAny (model prog w) A (eval elt (compEnvC scope cl C env)) (FiltEnd h₀ L m ((I, oI) :: (C, oC) :: (D, LCg.lst ys) :: news) { s with heap := h, toks := tk } k) E' s'
        else KeepEnd h₀ L m ((I, oI) :: (C, oC) :: (D, LCg.lst ys) :: news) { s with heap := h, toks := tk } s') E' { s with heap := h, toks := tk })
    (fin : ∀ g ys ks, IntsAre ys ks → (∀ n ∈ ks, P n) → ks.length ≤ ns.length → Fin { s with heap := g } ys news) : LCt.CompSrcT prog w A h₀ L m env ct elt x scope cl Fin (.ref ax) s := by
  have hS : LCg.SrcAt h₀ ax vs.toArray news := .inr ⟨_, hm, rfl, _, rfl⟩
  refine LCt.CompSrcT.ledger hh F N hm (by rw [List.size_toArray, PySem.sizeLine_eq]; omega) fun g => ?_
  have H : ∀ (k i : Nat) (ys : List Value) (ks : List Int), i + k = vs.toArray.size → IntsAre ys ks → (∀ n ∈ ks, P n) → ks.length ≤ i → LCt.CompRestT prog w A h₀ L m env ct elt x scope cl { s with heap := g } (LCg.SrcAt h₀ ax vs.toArray) (fun i v => vs.toArray[i]? = some v) (Fin { s with heap := g }) k i ys news := by
    intro k
    induction k with
    | zero => intro i ys ks e h1 h2 h3; exact LCt.CompRestT.zero (fin g ys ks h1 h2 (by rw [← hi.length]; rw [List.size_toArray] at e; omega))
    | succ k ih =>
      intro i ys ks e h1 h2 h3
      refine LCt.CompRestT.succ fun v I oI C oC D m₂ h tk E' a1 a2 a3 a4 a5 a6 a7 => ?_
      have a1' : vs[i]? = some v := by simpa using a1
      obtain ⟨n, t, rfl, e1, e2⟩ := ints_at hi a1'
      refine wpAny_mono (step n t ys I oI C oC D m₂ h tk E' e2 a2 a3 a4 a5) (fun ok s' q => ?_) fun _ _ q => q
      cases ok with
      | true =>
        rw [if_pos rfl] at q ⊢
        refine wpAny_mono q (fun y s2 q => ?_) fun _ _ q => q
        obtain ⟨h', tk', t', rfl, F2, N2, rfl⟩ := q
        exact LCg.CompEnd.intro F2 N2 news (fun p hp => hp) a6 hS (ih (i + 1) _ (ks ++ [n]) (by omega) (h1.append (.cons _ _ .nil)) (fun z hz => (List.mem_append.mp hz).elim (h2 z) fun q => List.mem_singleton.mp q ▸ hP n e2) (by rw [List.length_append, List.length_singleton]; omega))
      | false =>
        rw [if_neg Bool.false_ne_true] at q ⊢
        obtain ⟨h', tk', rfl, F2, N2⟩ := q
        exact LCg.CompEnd.intro F2 N2 news (fun p hp => hp) a6 hS (ih (i + 1) _ ks (by omega) h1 h2 (by omega))
  exact H _ 0 [] [] (Nat.zero_add _) .nil (fun _ h => (nomatch h)) (Nat.le_refl _)
theorem deck_cell (a : Int) : 0 ≤ a.fmod (10 ^ Int.toNat 60) ∧ a.fmod (10 ^ Int.toNat 60) < 10 ^ 60 := by
  rw [Int.fmod_eq_emod_of_nonneg _ (by decide)]
  exact ⟨Int.emod_nonneg _ (by decide), Int.emod_lt_of_pos _ (by decide)⟩
theorem deck_cells {xs : List Int} {f : Int → Int} : ∀ n ∈ (xs.map fun k => (f k).fmod (10 ^ Int.toNat 60)), 0 ≤ n ∧ n < 10 ^ 60 := fun n hn => by
  obtain ⟨k, _, rfl⟩ := List.mem_map.mp hn
  exact deck_cell _
end
end
section
set_option maxHeartbeats 1000000
theorem kw70 : True := by
  k_with_none
  k_with "ke_room" => (first | ((have hcL9ZZ := cLine_is; simp only [units_in1, units_deeper, Around.mark_units, units_caller]; (try dsimp only [arTop]); omega)) | fail)
  k_with "k_units" => (first | (ke_room) | fail)
  k_with "units_room" => (first | (ke_room) | fail)
  k_with "k_room" => (first | (((try simp only [depth_under_make, depth_under_kw, depth_in1, depth_deeper, depth_caller]); (try dsimp only [arTop]); (try simp only [recursionLimit]); omega)) | fail)
  k_with "ktr_room" => (first | (k_room) | fail)
  k_with "ktr_member" => (first | (first | exact allLt_ne (by with_reducible assumption) | exact allLt_ne1 (by with_reducible assumption) | exact allLt_ne2 (by with_reducible assumption) | exact off3_I (by with_reducible assumption) | exact off3_C (by with_reducible assumption) | exact off3_D (by with_reducible assumption) | exact off1_D (by with_reducible assumption)) | fail)
  k_with "k_ne" => (first | ((refine neN ?_; (try dsimp only); first | with_reducible assumption | exact Ne.symm (by with_reducible assumption) | exact Nat.ne_of_lt (by with_reducible assumption) | exact Nat.ne_of_gt (by with_reducible assumption) | omega)) | fail)
  k_with "kst_all" => (first | (first | with_reducible assumption | ktr_member | exact off_app (by first | with_reducible assumption | ktr_member) | exact off_app (off_app (by first | with_reducible assumption | ktr_member)) | exact off_app (off_app (off_app (by first | with_reducible assumption | ktr_member)))) | fail)
  k_with "kst_mem" => (first | ((refine' fil_mem ?aQ9 ?bQ9; (case aQ9 => k_mem); (case bQ9 => k_all))) | fail)
  k_with "kst_p" => (first | ((refine' fil_tree ?aQ10 ?bQ10 ?cQ10; (case aQ10 => with_reducible assumption); (case bQ10 => tb_start); (case cQ10 => exact fr_tl (by with_reducible assumption) (by with_reducible assumption) (by with_reducible assumption) (by with_reducible assumption) (by tb_start)))) | fail)
  k_with "k_all" => (first | (first | exact List.forall_mem_nil _ | (refine' List.forall_mem_cons.mpr ⟨?aQ11, ?bQ11⟩; (case aQ11 => k_ne); (case bQ11 => k_all)) | kst_all) | fail)
  k_with "lcg_off" => (first | (first | exact True.intro | (refine And.intro ⟨?aQ12, ?bQ12, ?cQ12⟩ ?dQ12; (case aQ12 => k_ne); (case bQ12 => k_ne); (case cQ12 => k_ne); (case dQ12 => lcg_off)) | with_reducible assumption | exact off3_of (by first | with_reducible assumption | ktr_member) (by first | with_reducible assumption | ktr_member) (by first | with_reducible assumption | ktr_member)) | fail)
  k_with "tb_rel" => (first | (first | with_reducible assumption | (refine List.mem_cons_of_mem _ ?_; tb_rel) | (refine List.mem_append.mpr (Or.inr ?_); tb_rel) | (refine List.mem_append.mpr (Or.inl ?_); tb_rel)) | fail)
  k_with "tb_start" => (first | ((intro p9ZZ hp9ZZ; tb_rel)) | fail)
  k_with "tbn_lt" => (first | (first | exact Ext.head | (refine' Ext.tail ?aQ15; (case aQ15 => tbn_lt))) | fail)
  k_with "tbn_below" => (first | (first | (refine' Split.cons ?aQ16; (case aQ16 => tbn_below)) | exact Split.base) | fail)
  k_with "tbn_conj" => (first | (first | exact True.intro | (refine' And.intro ?aQ17 ?bQ17; (case aQ17 => first | with_reducible assumption | ktr_member); (case bQ17 => tbn_conj))) | fail)
  k_with "my ite" => ((k_closed; first | (refine' iteBT ?p9Q18 ?_; (case p9Q18 => decide)) | (refine' iteBF ?p9Q18 ?_; (case p9Q18 => decide))))
  k_with "my CompEnd" => ((k_here; k_dflt (refine' comp_end ?FQ19 ?NQ19 ?e1Q19 ?e2Q19 ?e3Q19 ?offQ19 ?_; (case FQ19 => k_asm); (case NQ19 => k_asm); (case e1Q19 => tbn_lt); (case e2Q19 => tbn_lt); (case e3Q19 => tbn_lt); (case offQ19 => lcg_off))))
  k_with "my CompSrc" => ((k_here; k_dflt (refine LCg.CompSrc.range (by rfl) (by k_asm) (by k_asm) (by assumption) (by first | decide | rfl) (by first | rfl | decide) (by first | size_fits | exact Nat.le_of_ble_eq_true rfl) ?_; intro g'ZZ; lcg_lit)))
  k_with "my CompRest" => ((with_unfolding_all first | (refine LCg.CompRest.succ ?_; intro v'ZZ I'ZZ oI'ZZ C'ZZ oC'ZZ D'ZZ m'ZZ h'ZZ tk'ZZ E'ZZ hv'ZZ hC'ZZ hx'ZZ F'ZZ N'ZZ off'ZZ ne'ZZ; (first | lcg_open hv'ZZ | (obtain ⟨t9'ZZ, hv9'ZZ⟩ := hv'ZZ; subst hv9'ZZ)); (try dsimp only [LCg.Off3] at off'ZZ); (refine let_goal ?_); intro G9ZZ; (repeat (with_reducible obtain ⟨⟨_, _, _⟩, off'ZZ⟩ := off'ZZ)); (obtain ⟨_, _, _⟩ := ne'ZZ); k_unfold; clear G9ZZ) | refine LCg.CompRest.zero ?_))
  k_with "my FinE" => (((unfold LCg.FinE); intro D'ZZ h'ZZ tk'ZZ F'ZZ N'ZZ o1'ZZ; (try dsimp only [LCg.Off1] at o1'ZZ); (refine let_goal ?_); intro G9ZZ; (repeat (with_reducible obtain ⟨_, o1'ZZ⟩ := o1'ZZ)); k_unfold; clear G9ZZ; (try simp only [List.nil_append, List.cons_append] at N'ZZ); (try dsimp only)))
  trivial
section
variable {prog : Program} {w : World} {p : Program} {loose : List Str} {mean : ExcName → Option Value} {mg mb : Str → Option Value} {dp un : Nat} {gd : Option (List Code)} {env : Env} {outer : List Env} {A₀ : Around} {base h₀ : Heap} {L : Addr} {m : Str → Option Value} {s : Shared} {Q E : Value → Shared → Prop} {l imm : List (Addr × Obj)} {d c f : Nat} {cells : List Int} {vs : List Value} {nd nc nf : Nat} {mx x : Int} {tk0 tkx : Tok} {t t' : T} {v v' : Value}
/-- the deck and what stands beside it -/
structure DeckAt (d : Nat) (imm l : List (Addr × Obj)) : Prop where
  ex : ∃ c cells vs nd nc mx tk, l = ((d, listOf #[.ref c, .int mx tk] nd) :: (c, listOf vs.toArray nc) :: imm) ∧ IntsAre vs cells ∧ Cells cells ∧ (0 ≤ mx ∧ mx < 2147483647) ∧ d ≠ c ∧ (∀ p ∈ imm, p.1 ≠ d) ∧ (∀ p ∈ imm, p.1 ≠ c)
theorem law_tree (hf : env.frame = some L) (hk : env.scope.kind = .function) (B : Below A₀ base outer h₀) (F : Fr h₀ L s.heap m) (X : (hd.heap_1 w.params).In h₀) (T0 : Top p loose mean mg mb h₀)
    (N : News h₀ L s.heap [(f, listOf #[.int x tkx] nf), (d, listOf #[.ref c, .int mx tk0] nd), (c, listOf vs.toArray nc)]) (hx : x = 4 ∨ x = 18) (hi : IntsAre vs cells) (hc : Cells cells) (hm : MxOk mx) (hcd : c < d) (hdf : d < f) (hd1 : dp < 400) (hu1 : un < 2000)
    (ret : ∀ r t tl l' h' tk', Fr h₀ L h' m → News h₀ L h' l' → DeckAt d tl l' → TreeIn tl t r → t.wf 2 → t.depth ≤ 36 → t.size ≤ 108 → Q r { s with heap := h', toks := tk' }) :
    wpAny (model prog w) (arTop dp un gd env outer) (call (.ref 805) [.ref d, .ref f]) Q E s := by
  have hx2 : x.toNat ≤ 18 := by omega
  have hx3 : 1 ≤ x ∧ x ≤ 18 := by omega
  refine tree_spec prog w x d c f cells vs nd nc nf mx tk0 tkx [] hi hc hm (Ne.symm (Nat.ne_of_lt hcd)) (Nat.ne_of_lt hdf) (Nat.ne_of_lt (Nat.lt_trans hcd hdf)) (fun _ h => nomatch h) (fun _ h => nomatch h) (fun _ h => nomatch h) _ _ _ _ _ _ _ _ _ _ _ _ _ _ _ _ _ _ hf hk B F X ?_ T0 (by omega) (by omega) ?_
  · intro q hq
    apply N q
    simp only [List.mem_cons, List.not_mem_nil, or_false] at hq ⊢
    rcases hq with h | h | h <;> simp [h]
  · rintro r news' h' tk' F' N' ⟨t, cells', vs', nd', nc', mx', tk, y, tky, nf', tl, rfl, h1, h2, h3, h4, h5, h6⟩
    obtain ⟨g1, g2, g3, _, g5, _⟩ := h6
    have g5 := g5 hx3.1
    refine ret r t tl _ h' tk' F' (fun q hq => ?_) ⟨c, cells', vs', nd', nc', mx', tk, rfl, h1, h2, h3, Ne.symm (Nat.ne_of_lt hcd), fun q hq => Ne.symm (h4 q hq _ (.head _)), fun q hq => Ne.symm (h4 q hq _ (.tail _ (.head _)))⟩ h5 g1 (by omega) (by omega)
    apply N' q
    simp only [List.mem_cons, List.append_nil] at hq ⊢
    rcases hq with h | h | h <;> simp [h]
theorem law_spoilt (hf : env.frame = some L) (hk : env.scope.kind = .function) (B : Below A₀ base outer h₀) (F : Fr h₀ L s.heap m) (X : (hd.heap_1 w.params).In h₀) (T0 : Top p loose mean mg mb h₀)
    (N : News h₀ L s.heap l) (D : DeckAt d imm l) (ht : TreeIn imm t v) (hw : t.wf 2) (hz : t.depth ≤ 36) (hz2 : t.size ≤ 108) (hd1 : dp < 400) (hu1 : un < 2000)
    (ret : ∀ r t' imm' l' h' tk', Fr h₀ L h' m → News h₀ L h' l' → DeckAt d imm' l' → TreeIn imm' t v → TreeIn imm' t' r → t'.wf 3 → t'.depth ≤ 37 → t'.size ≤ 109 → Q r { s with heap := h', toks := tk' }) :
    wpAny (model prog w) (arTop dp un gd env outer) (call (.ref 812) [.ref d, v]) Q E s := by
  obtain ⟨c, cells, vs, nd, nc, mx, tk, rfl, hi, hc, hm, hdc, o1, o2⟩ := D
  refine sp_spec prog w t d c cells vs nd nc mx tk v imm hi hc hm hdc o1 o2 ht hw _ _ _ _ _ _ _ _ _ _ _ _ _ _ _ _ _ _ hf hk B F X N T0 (by omega) (by omega) ?_
  rintro r news' h' tk' F' N' ⟨t', cells', vs', nd', nc', mx', tk2, tl, rfl, h1, h2, h3, h4, h5, h6, h7, h8⟩
  refine ret r t' (tl ++ imm) _ h' tk' F' N' ⟨c, cells', vs', nd', nc', mx', tk2, rfl, h1, h2, h3, hdc, fun q hq => ?_, fun q hq => ?_⟩ (.mono (fun q hq => List.mem_append_right _ hq) _ _ ht) h5 h6 (by omega) (by omega)
  · exact (List.mem_append.mp hq).elim (fun h => Ne.symm (h4 q h _ (.head _))) (o1 q)
  · exact (List.mem_append.mp hq).elim (fun h => Ne.symm (h4 q h _ (.tail _ (.head _)))) (o2 q)
theorem law_draw (hf : env.frame = some L) (hk : env.scope.kind = .function) (B : Below A₀ base outer h₀) (F : Fr h₀ L s.heap m) (X : (hd.heap_1 w.params).In h₀) (T0 : Top p loose mean mg mb h₀) {tkm : Tok}
    (N : News h₀ L s.heap l) (D : DeckAt d imm l) (hd1 : dp < 400) (hu1 : un < 2000) (ret : ∀ k tk h' tk', Fr h₀ L h' m → News h₀ L h' imm → (0 ≤ k ∧ k < 91) → Q (.int k tk) { s with heap := h', toks := tk' }) :
    wpAny (model prog w) (arTop dp un gd env outer) (call (.ref 793) [.ref d, .int 90 tkm]) Q E s := by
  obtain ⟨c, cells, vs, nd, nc, mx, tk, rfl, hi, hc, hm, hdc, o1, o2⟩ := D
  refine draw_spec prog w d c cells vs nd nc mx tk 90 tkm imm hi hc hm (by decide) hdc o1 o2 _ _ _ _ _ _ _ _ _ _ _ _ _ _ _ _ _ _ hf hk B F X N T0 (by omega) (by omega) ?_
  rintro r news' h' tk' F' N' ⟨k, t, cells', vs', nd', nc', mx', tk2, rfl, h1, h2, rfl, h3, h4, h5⟩
  exact ret k t h' tk' F' (fun q hq => N' q (.tail _ (.tail _ hq))) ⟨h1, by omega⟩
theorem law_node (hf : env.frame = some L) (hk : env.scope.kind = .function) (B : Below A₀ base outer h₀) (F : Fr h₀ L s.heap m) (X : (hd.heap_1 w.params).In h₀) (T0 : Top p loose mean mg mb h₀) {sh : Int} {tkm : Tok}
    (N : News h₀ L s.heap imm) (ht : TreeIn imm t v) (hw : t.wf 3) (hs : 0 ≤ sh ∧ sh < 91) (hz : t.depth ≤ 37) (hd1 : dp < 400) (hu1 : un < 2000)
    (ret : ∀ r imm' h' tk', Fr h₀ L h' m → News h₀ L h' imm' → (∀ p ∈ imm, p ∈ imm') → NodeIn w.params imm' (core sh t) r → Q r { s with heap := h', toks := tk' }) :
    wpAny (model prog w) (arTop dp un gd env outer) (call (.ref 817) [v, .int sh tkm]) Q E s := by
  refine node_spec prog w t sh tkm v imm ht hw hs _ _ _ _ _ _ _ _ _ _ _ _ _ _ _ _ _ _ hf hk B F X N T0 (by omega) (by omega) ?_
  rintro r news' h' tk' F' N' ⟨tl, rfl, h1, h2⟩
  exact ret r (tl ++ imm) h' tk' F' N' (fun q hq => List.mem_append_right _ hq) (.mono (fun q hq => List.mem_append_left _ hq) _ _ h2)
theorem law_wr (hf : env.frame = some L) (hk : env.scope.kind = .function) (B : Below A₀ base outer h₀) (F : Fr h₀ L s.heap m) (X : (hd.heap_1 w.params).In h₀) (T0 : Top p loose mean mg mb h₀) {a b na nb : Nat}
    (N : News h₀ L s.heap ((b, listOf #[] nb) :: (a, listOf #[] na) :: imm)) (o1 : ∀ p ∈ imm, p.1 < a) (hab : a < b) (ht : TreeIn imm t v) (hw : t.wf 3) (hz : t.depth ≤ 37) (hd1 : dp < 400) (hu1 : un < 2000)
    (ret : ∀ r imm' h' tk', Fr h₀ L h' m → News h₀ L h' imm' → (∀ p ∈ imm, p ∈ imm') → DatIn imm' r (wrD t [] []) → Q r { s with heap := h', toks := tk' }) :
    wpAny (model prog w) (arTop dp un gd env outer) (call (.ref 829) [v, .ref a, .ref b]) Q E s := by
  have m0 : Met [] := ⟨(fun _ h => nomatch h), List.nodup_nil⟩
  refine wr_spec prog w t a b [] na [] nb [] [] v imm .nil m0 .nil m0 (Nat.ne_of_lt hab) (fun q hq => Nat.ne_of_lt (o1 q hq)) (fun q hq => Nat.ne_of_lt (Nat.lt_trans (o1 q hq) hab)) ht hw _ _ _ _ _ _ _ _ _ _ _ _ _ _ _ _ _ _ hf hk B F X ?_ T0 (by omega) (by omega) ?_
  · intro q hq
    apply N q
    simp only [List.mem_cons] at hq ⊢
    rcases hq with h | h | h <;> simp [h]
  · rintro r news' h' tk' F' N' ⟨vs, n, us, n2, tl, rfl, _, _, _, _, h1, h2⟩
    exact ret r (tl ++ imm) h' tk' F' (fun q hq => N' q (.tail _ (.tail _ hq))) (fun q hq => List.mem_append_right _ hq) (.mono (fun q hq => List.mem_append_left _ hq) h2)
theorem law_same (hf : env.frame = some L) (hk : env.scope.kind = .function) (B : Below A₀ base outer h₀) (F : Fr h₀ L s.heap m) (X : (hd.heap_1 w.params).In h₀) (T0 : Top p loose mean mg mb h₀) {k k' : K} {v v' : Value} {b : Bool}
    (N : News h₀ L s.heap imm) (h1 : NodeIn w.params imm k v) (h2 : NodeIn w.params imm k' v') (hz : k.size ≤ 200) (hz' : k'.size ≤ 1000) (hb : sameP [(k, k')] ⟨[], [], [], []⟩ = b) (hd1 : dp < 400) (hu1 : un < 2000)
    (ret : ∀ h' tk', Fr h₀ L h' m → News h₀ L h' imm → Q (.bool b) { s with heap := h', toks := tk' }) :
    wpAny (model prog w) (arTop dp un gd env outer) (call (.ref 781) [v, v']) Q E s := by
  subst hb
  have e1 : ∃ a, v = .ref a := by cases k; obtain ⟨a, _, _, _, rfl, _⟩ := h1.inv; exact ⟨a, rfl⟩
  have e2 : ∃ a, v' = .ref a := by cases k'; obtain ⟨a, _, _, _, rfl, _⟩ := h2.inv; exact ⟨a, rfl⟩
  obtain ⟨a, rfl⟩ := e1
  obtain ⟨a', rfl⟩ := e2
  refine same_spec prog w k k' a a' imm h1 h2 hz hz' _ _ _ _ _ _ _ _ _ _ _ _ _ _ _ _ _ _ hf hk B F X N T0 (by omega) (by omega) ?_
  rintro r news' h' tk' F' N' ⟨rfl, rfl⟩
  exact ret h' tk' F' N'
end
section
variable {prog : Program} {w : World} {A : Around} {E : Value → Shared → Prop} {s : Shared} {h₀ : Heap} {L : Addr} {m : Str → Option Value} {news imm : List (Addr × Obj)}
noncomputable def FuelAt (h₀ : Heap) (L : Addr) (m : Str → Option Value) (news : List (Addr × Obj)) (s : Shared) (v : Value) (s' : Shared) : Prop :=
  ∃ x tk h' tk', v = .int x tk ∧ (x = 4 ∨ x = 18) ∧ s' = { s with heap := h', toks := tk' } ∧ Fr h₀ L h' m ∧ News h₀ L h' news
theorem fuel_cut {h : Heap} {t : Sem Value} {Q : Value → Shared → Prop} (_F : Fr h₀ L h m) (_N : News h₀ L h news) (h1 : wpAny (model prog w) A t (FuelAt h₀ L m news s) E s)
    (h2 : ∀ x tk h' tk', (x = 4 ∨ x = 18) → Fr h₀ L h' m → News h₀ L h' news → Q (.int x tk) { s with heap := h', toks := tk' }) : wpAny (model prog w) A t Q E s :=
  wpAny_mono h1 (fun v s' h => by obtain ⟨x, tk, h', tk', rfl, a, rfl, b, c⟩ := h; exact h2 x tk h' tk' a b c) fun _ _ h => h
theorem law_due {t t' : T} {v v' : Value} {Q : Value → Shared → Prop} (N : News h₀ L s.heap imm) (h1 : DatIn imm v (wrD t [] [])) (h2 : DatIn imm v' (wrD t' [] [])) (w1 : t.wf 3) (w2 : t'.wf 3) (hz : t.depth ≤ 37) (hu : A.units < 2000)
    (h : ∀ b, b = eqd (wrD t [] []) (wrD t' [] []) → Q (.bool b) s) : wpAny (model prog w) A (compareOp .Eq v v') Q E s := by
  have := wr_deep t [] []
  have hc := cLine_is
  exact eq_dat N h1 h2 (wr_ok t _ _ w1) (wr_ok t' _ _ w2) (by omega) (h _ rfl)
theorem law_end {a b : Nat} {b1 b2 b3 due : Bool} {na nb : Nat} {Q : Value → Shared → Prop} (N : News h₀ L s.heap news) (ha : (a, listOf #[.bool b1, .bool b2, .bool b3] na) ∈ news) (hb : (b, listOf #[.bool due, .bool due, .bool true] nb) ∈ news) (e1 : b1 = due) (e2 : b2 = due) (e3 : b3 = true) (hu : A.units < 2000)
    (h : Q (.bool true) s) : wpAny (model prog w) A (compareOp .Eq (.ref a) (.ref b)) Q E s := by
  subst e1; subst e2; subst e3
  have hc := cLine_is
  have d1 : DatIn news (.ref a) (.list [.bool b2, .bool b2, .bool true]) := .list ha (.cons (.bool _) (.cons (.bool _) (.cons (.bool _) .nil)))
  have d2 : DatIn news (.ref b) (.list [.bool b2, .bool b2, .bool true]) := .list hb (.cons (.bool _) (.cons (.bool _) (.cons (.bool _) .nil)))
  have hz : (kqdP (.list [.bool b2, .bool b2, .bool true])).depth = 1 := rfl
  refine eq_dat N d1 d2 rfl rfl (by omega) ?_
  have e : PyData.eqv (kqdP (.list [.bool b2, .bool b2, .bool true])) (kqdP (.list [.bool b2, .bool b2, .bool true])) = true := eqv_refl _
  rw [e]; exact h
end
theorem news_two {h₀ h : Heap} {L d c : Addr} {o : Obj} {ys : List Value} {l : List (Addr × Obj)} (N : News h₀ L h ((d, o) :: (c, LCg.lst ys) :: l)) : News h₀ L h [(d, o), (c, listOf ys.toArray ys.length)] := fun p hp => by
  rcases List.mem_cons.mp hp with rfl | hp
  · exact N _ (.head _)
  · rw [List.mem_singleton.mp hp]; exact N (c, LCg.lst ys) (.tail _ (.head _))
end
section
set_option maxHeartbeats 6000000
theorem kw72 : True := by
  k_with_none
  k_with "ke_room" => (first | ((have hcL9ZZ := cLine_is; simp only [units_in1, units_deeper, Around.mark_units, units_caller]; (try dsimp only [arTop]); omega)) | fail)
  k_with "k_units" => (first | (ke_room) | fail)
  k_with "units_room" => (first | (ke_room) | fail)
  k_with "k_room" => (first | (((try simp only [depth_under_make, depth_under_kw, depth_in1, depth_deeper, depth_caller]); (try dsimp only [arTop]); (try simp only [recursionLimit]); omega)) | fail)
  k_with "ktr_room" => (first | (k_room) | fail)
  k_with "ktr_member" => (first | (first | exact allLt_ne (by with_reducible assumption) | exact allLt_ne1 (by with_reducible assumption) | exact allLt_ne2 (by with_reducible assumption) | exact off3_I (by with_reducible assumption) | exact off3_C (by with_reducible assumption) | exact off3_D (by with_reducible assumption) | exact off1_D (by with_reducible assumption)) | fail)
  k_with "k_ne" => (first | ((refine neN ?_; (try dsimp only); first | with_reducible assumption | exact Ne.symm (by with_reducible assumption) | exact Nat.ne_of_lt (by with_reducible assumption) | exact Nat.ne_of_gt (by with_reducible assumption) | omega)) | fail)
  k_with "kst_all" => (first | (first | with_reducible assumption | ktr_member | exact off_app (by first | with_reducible assumption | ktr_member) | exact off_app (off_app (by first | with_reducible assumption | ktr_member)) | exact off_app (off_app (off_app (by first | with_reducible assumption | ktr_member)))) | fail)
  k_with "kst_mem" => (first | ((refine' fil_mem ?aQ9 ?bQ9; (case aQ9 => k_mem); (case bQ9 => k_all))) | fail)
  k_with "kst_p" => (first | ((refine' fil_tree ?aQ10 ?bQ10 ?cQ10; (case aQ10 => with_reducible assumption); (case bQ10 => tb_start); (case cQ10 => exact fr_tl (by with_reducible assumption) (by with_reducible assumption) (by with_reducible assumption) (by with_reducible assumption) (by tb_start)))) | fail)
  k_with "k_all" => (first | (first | exact List.forall_mem_nil _ | (refine' List.forall_mem_cons.mpr ⟨?aQ11, ?bQ11⟩; (case aQ11 => k_ne); (case bQ11 => k_all)) | kst_all) | fail)
  k_with "lcg_off" => (first | (first | exact True.intro | (refine And.intro ⟨?aQ12, ?bQ12, ?cQ12⟩ ?dQ12; (case aQ12 => k_ne); (case bQ12 => k_ne); (case cQ12 => k_ne); (case dQ12 => lcg_off)) | with_reducible assumption | exact off3_of (by first | with_reducible assumption | ktr_member) (by first | with_reducible assumption | ktr_member) (by first | with_reducible assumption | ktr_member)) | fail)
  k_with "tb_rel" => (first | (first | with_reducible assumption | (refine List.mem_cons_of_mem _ ?_; tb_rel) | (refine List.mem_append.mpr (Or.inr ?_); tb_rel) | (refine List.mem_append.mpr (Or.inl ?_); tb_rel)) | fail)
  k_with "tb_start" => (first | ((intro p9ZZ hp9ZZ; tb_rel)) | fail)
  k_with "tbn_lt" => (first | (first | exact Ext.head | (refine' Ext.tail ?aQ15; (case aQ15 => tbn_lt))) | fail)
  k_with "tbn_below" => (first | (first | (refine' Split.cons ?aQ16; (case aQ16 => tbn_below)) | exact Split.base) | fail)
  k_with "tbn_conj" => (first | (first | exact True.intro | (refine' And.intro ?aQ17 ?bQ17; (case aQ17 => first | with_reducible assumption | ktr_member); (case bQ17 => tbn_conj))) | fail)
  k_with "my ite" => ((k_closed; first | (refine' iteBT ?p9Q18 ?_; (case p9Q18 => decide)) | (refine' iteBF ?p9Q18 ?_; (case p9Q18 => decide))))
  k_with "my CompEnd" => ((k_here; k_dflt (refine' comp_end ?FQ19 ?NQ19 ?e1Q19 ?e2Q19 ?e3Q19 ?offQ19 ?_; (case FQ19 => k_asm); (case NQ19 => k_asm); (case e1Q19 => tbn_lt); (case e2Q19 => tbn_lt); (case e3Q19 => tbn_lt); (case offQ19 => lcg_off))))
  k_with "my CompSrc" => ((k_here; k_dflt (refine LCg.CompSrc.range (by rfl) (by k_asm) (by k_asm) (by assumption) (by first | decide | rfl) (by first | rfl | decide) (by first | size_fits | exact Nat.le_of_ble_eq_true rfl) ?_; intro g'ZZ; lcg_lit)))
  k_with "my CompRest" => ((with_unfolding_all first | (refine LCg.CompRest.succ ?_; intro v'ZZ I'ZZ oI'ZZ C'ZZ oC'ZZ D'ZZ m'ZZ h'ZZ tk'ZZ E'ZZ hv'ZZ hC'ZZ hx'ZZ F'ZZ N'ZZ off'ZZ ne'ZZ; (first | lcg_open hv'ZZ | (obtain ⟨t9'ZZ, hv9'ZZ⟩ := hv'ZZ; subst hv9'ZZ)); (try dsimp only [LCg.Off3] at off'ZZ); (refine let_goal ?_); intro G9ZZ; (repeat (with_reducible obtain ⟨⟨_, _, _⟩, off'ZZ⟩ := off'ZZ)); (obtain ⟨_, _, _⟩ := ne'ZZ); k_unfold; clear G9ZZ) | refine LCg.CompRest.zero ?_))
  k_with "my FinE" => (((unfold LCg.FinE); intro D'ZZ h'ZZ tk'ZZ F'ZZ N'ZZ o1'ZZ; (try dsimp only [LCg.Off1] at o1'ZZ); (refine let_goal ?_); intro G9ZZ; (repeat (with_reducible obtain ⟨_, o1'ZZ⟩ := o1'ZZ)); k_unfold; clear G9ZZ; (try simp only [List.nil_append, List.cons_append] at N'ZZ); (try dsimp only)))
  k_with "k_mem" => (first | (first | exact List.Mem.head _ | (refine' List.mem_cons_of_mem _ ?_; k_mem) | with_reducible assumption) | fail)
  k_with "my exec Assign" => (k_fold)
  k_with "my exec If" => (k_fold)
  k_with "my exec Return" => (k_fold)
  k_with "my exec Expr" => (k_fold)
  k_with "my newTuple" => ((k_here; k_dflt (refine' kup_newTuple ?FQ225 ?NQ225 ?_ ?zQ225; (case FQ225 => k_asm); (case NQ225 => k_asm); (case zQ225 => kmk_size)); intro D'ZZ h'ZZ F'ZZ N'ZZ l1ZZ; clear l1ZZ; (try k_sweep)))
  k_with "my storeName" => ((k_here; k_dflt (refine' storeX_L ?FQ226 ?NQ226 ?_ ?aQ226 ?bQ226; (case FQ226 => k_asm); (case NQ226 => k_asm); (case aQ226 => rfl); (case bQ226 => rfl); k_whole; intro h'ZZ F'ZZ N'ZZ; (try k_sweep)); (refine let_m F'ZZ ?_); clear F'ZZ; intro m'ZZ F'ZZ))
  k_with "k_ne" => (first | ((refine neN ?_; (try dsimp only); first | with_reducible assumption | exact Ne.symm (by with_reducible assumption) | exact neC (by k_asm) (by k_mem) (by k_mem) tl_ne)) | fail)
  k_with "k_qdec" => (first | (decide +kernel) | fail)
  k_with "my call ref" => (((with_reducible rename Mk3 => mk8ZZ); (with_reducible show wpAny _ _ (call (Value.ref _) (_ :: _)) _ _ _); refine Stop.out ?_))
  k_with "my compareOp Eq" => (((with_reducible rename Mk4 => mk7ZZ); refine Stop.out ?_))
  k_with "my pyIter ref" => ((refine Stop.out ?_))
  k_with "my eval ListComp" => (((with_reducible rename Mk2 => mk9ZZ); k_here; lct_look; lcg_calm; k_dflt (refine LCt.ListComp_T (F₀ := by k_asm) (by with_unfolding_all rfl) (by decide) (by rfl) (by decide) (by rfl) ?_); k_dflt lct_toSrc))
  k_with "my CompSrcT" => ((refine Stop.out ?_))
  k_with "my eval IfExp" => (((with_reducible rename Mk2 => mk9ZZ); (fail_if_success (with_reducible rename Mk3 => mk8ZZ)); refine Stop.out ?_))
  k_with "my compareOp Eq ref ref" => (((with_reducible rename Mk4 => mk7ZZ); refine Stop.out ?_))
  trivial
theorem law0 : PySem.Challenge.rw_on0297_01.Holds := by
  refine Mine.hd ?_
  k_go0
  all_goals try k_fold
  k_steps
  refine Stop.into ?_
  (rename Fr _ _ _ _ => F9); (rename News _ _ _ _ => N9); (rename IntsAre _ (List.map _ _) => hI9)
  have hL9 := hI9.length
  rw [List.length_map, List.length_take] at hL9
  k_dflt (refine' mix_loop (y := "_law_mixed") ?hh ?hl hI9 F9 N9 ?hk mx7 ?turn ?done)
  case hh => rfl
  case hk => rfl
  case hl => k_mem
  case turn =>
    intro k6 t6 n6 t7 h6 tk6 own6 hm6 hk6 F6 N6
    k_steps
    exact ⟨_, _, _, _, _, rfl, by k_asm, by k_asm, rfl, fun z h1 h2 => (if_neg h2).trans ((if_neg h1).trans (if_neg h2)), mx_mod _⟩
  case done =>
    intro k6 t6 u6 h6 tk6 hk6 F6 N6
    have mk9 := Mk2.mk
    k_steps
    refine Stop.into ?_
    (rename Fr _ _ _ _ => F9); (rename News _ _ _ _ => N9)
    k_dflt (refine' comp_filt (P := fun n => 0 ≤ n ∧ n < 10 ^ 60) ?hh F9 N9 ?hm ?hsz hI9 deck_cells ?step ?fin)
    case hh => rfl
    case hm => k_mem
    case hsz => omega
    case step =>
      intro k7 t7 ys7 I7 oI7 C7 oC7 D7 m7 h7 tk7 E7 e7 a1 a2 F7 N7
      k_steps
      · exact ⟨_, _, _, rfl, by k_asm, by k_asm, rfl⟩
      · exact ⟨_, _, rfl, by k_asm, by k_asm⟩
    case fin =>
      intro g7 ys7 ks7 hi7 hP7 hl7
      k_steps
      refine Stop.into ?_
      have mk8 := Mk3.mk
      (rename News _ _ _ _ => N7)
      have N8 := news_two N7
      clear N7
      have hc8 : Cells ks7 := ⟨hP7, by rw [List.length_map, List.length_take] at hl7; omega⟩
      clear F9 N9
      (rename Fr _ _ _ _ => F8)
      k_dflt (refine' fuel_cut F8 N8 ?k1 ?k2)
      case k1 =>
        k_steps
        · exact ⟨_, _, _, _, rfl, .inl rfl, rfl, by k_asm, news_sub (by k_asm) (by tb_start)⟩
        · exact ⟨_, _, _, _, rfl, .inr rfl, rfl, by k_asm, news_sub (by k_asm) (by tb_start)⟩
      case k2 =>
        clear F8 N8
        intro x8 tk8 h8 tk7 hx8 F8 N8
        k_steps
        refine Stop.into ?_
        (rename News _ _ _ _ => N8); (rename Fr _ _ _ _ => F8)
        k_dflt (refine' law_tree ?hf ?hk ?B F8 ?X ?T N8 hx8 hi7 hc8 hk6 ?hcd ?hdf ?hd1 ?hu1 ?_)
        case hf => rfl
        case hk => first | rfl | assumption
        case B => k_asm
        case X => k_in
        case T => k_asm
        case hd1 => k_room
        case hu1 => ke_room
        case hcd => with_reducible assumption
        case hdf => with_reducible assumption
        clear N8 F8
        intro r9 t9 tl9 l9 h9 tk9 F9 N9 D9 ht9 hw9 hz9 hs9
        k_steps
        refine Stop.into ?_
        (rename News _ _ _ _ => N8); (rename Fr _ _ _ _ => F8)
        k_dflt (refine' law_spoilt ?hf ?hk ?B F8 ?X ?T N8 D9 ht9 hw9 hz9 hs9 ?hd1 ?hu1 ?_)
        case hf => rfl
        case hk => first | rfl | assumption
        case B => k_asm
        case X => k_in
        case T => k_asm
        case hd1 => k_room
        case hu1 => ke_room
        clear N8 F8
        intro r1 t1 im1 l1 h1 tk1 F1 N1 D1 hta htb hwb hzb hsb
        k_steps
        refine Stop.into ?_
        (rename News _ _ _ _ => N8); (rename Fr _ _ _ _ => F8)
        k_dflt (refine' law_draw ?hf ?hk ?B F8 ?X ?T N8 D1 ?hd1 ?hu1 ?_)
        case hf => rfl
        case hk => first | rfl | assumption
        case B => k_asm
        case X => k_in
        case T => k_asm
        case hd1 => k_room
        case hu1 => ke_room
        clear N8 F8
        intro sh tk2 h2 tk3 F2 N2 hsh
        have hwa := T.wf_up _ hw9
        have mk7 := Mk4.mk
        k_steps
        refine Stop.into ?_
        (rename News _ _ _ _ => N8); (rename Fr _ _ _ _ => F8)
        k_dflt (refine' law_node ?hf ?hk ?B F8 ?X ?T (fun p hp => N8 p (List.Mem.tail _ hp)) hta hwa (by decide) (by omega) ?hd1 ?hu1 ?_)
        case hf => rfl
        case hk => first | rfl | assumption
        case B => k_asm
        case X => k_in
        case T => k_asm
        case hd1 => k_room
        case hu1 => ke_room
        clear N8 F8
        intro r2 im2 h3 tk4 F3 N3 s2 n2
        k_steps
        refine Stop.into ?_
        (rename News _ _ _ _ => N8); (rename Fr _ _ _ _ => F8)
        k_dflt (refine' law_node ?hf ?hk ?B F8 ?X ?T N8 (.mono s2 _ _ htb) hwb hsh hzb ?hd1 ?hu1 ?_)
        case hf => rfl
        case hk => first | rfl | assumption
        case B => k_asm
        case X => k_in
        case T => k_asm
        case hd1 => k_room
        case hu1 => ke_room
        clear N8 F8
        intro r3 im3 h4 tk5 F4 N4 s3 n3
        have n2 := NodeIn.mono s3 _ _ n2
        have hta := TreeIn.mono s3 _ _ (TreeIn.mono s2 _ _ hta)
        have htb := TreeIn.mono s3 _ _ (TreeIn.mono s2 _ _ htb)
        k_steps
        refine Stop.into ?_
        (rename News _ _ _ _ => N8); (rename Fr _ _ _ _ => F8)
        k_dflt (refine' law_wr ?hf ?hk ?B F8 ?X ?T N8 (allLt_lt ⟨by with_reducible assumption, by with_reducible assumption⟩) (by with_reducible assumption) (.mono (fun _ h => .tail _ h) _ _ hta) hwa (by omega) ?hd1 ?hu1 ?_)
        case hf => rfl
        case hk => first | rfl | assumption
        case B => k_asm
        case X => k_in
        case T => k_asm
        case hd1 => k_room
        case hu1 => ke_room
        clear N8 F8
        intro r4 im4 h5 tk6 F5 N5 s4 d4
        have n2 := NodeIn.mono (fun p hp => s4 p (List.Mem.tail _ hp)) _ _ n2
        have n3 := NodeIn.mono (fun p hp => s4 p (List.Mem.tail _ hp)) _ _ n3
        have htb := TreeIn.mono (fun p hp => s4 p (List.Mem.tail _ hp)) _ _ htb
        k_steps
        refine Stop.into ?_
        (rename News _ _ _ _ => N8); (rename Fr _ _ _ _ => F8)
        k_dflt (refine' law_wr ?hf ?hk ?B F8 ?X ?T N8 (allLt_lt (by with_reducible assumption)) (by with_reducible assumption) htb hwb hzb ?hd1 ?hu1 ?_)
        case hf => rfl
        case hk => first | rfl | assumption
        case B => k_asm
        case X => k_in
        case T => k_asm
        case hd1 => k_room
        case hu1 => ke_room
        clear N8 F8
        intro r5 im5 h7 tk9 F6 N6 s5 d5
        have n2 := NodeIn.mono s5 _ _ n2
        have n3 := NodeIn.mono s5 _ _ n3
        have d4 := DatIn.mono s5 d4
        k_steps
        refine Stop.into ?_
        (rename News _ _ _ _ => N8)
        refine law_due N8 d4 d5 hwa hwb (by omega) (by ke_room) ?_
        intro due hdue
        obtain ⟨e1, e2, e3⟩ := law_says (sh := sh) hwa hwb
        rw [← hdue] at e1 e2
        have z1 : (core 11 t9).size ≤ 200 := by rw [core_size]; omega
        have z2 : (core sh t1).size ≤ 200 := by rw [core_size]; omega
        k_steps
        refine Stop.into ?_
        (rename News _ _ _ _ => N8); (rename Fr _ _ _ _ => F8)
        k_dflt (refine' law_same ?hf ?hk ?B F8 ?X ?T N8 n2 n3 z1 (Nat.le_trans z2 (by decide)) e1 ?hd1 ?hu1 ?_)
        case hf => rfl
        case hk => first | rfl | assumption
        case B => k_asm
        case X => k_in
        case T => k_asm
        case hd1 => k_room
        case hu1 => ke_room
        clear N8 F8
        intro h8 tk9 F7 N7
        k_steps
        refine Stop.into ?_
        (rename News _ _ _ _ => N8); (rename Fr _ _ _ _ => F8)
        k_dflt (refine' law_same ?hf ?hk ?B F8 ?X ?T N8 n3 n2 z2 (Nat.le_trans z1 (by decide)) e2 ?hd1 ?hu1 ?_)
        case hf => rfl
        case hk => first | rfl | assumption
        case B => k_asm
        case X => k_in
        case T => k_asm
        case hd1 => k_room
        case hu1 => ke_room
        clear N8 F8
        intro h9 tk10 F8 N8
        k_steps
        refine Stop.into ?_
        (rename News _ _ _ _ => N8); (rename Fr _ _ _ _ => F8)
        k_dflt (refine' law_same ?hf ?hk ?B F8 ?X ?T N8 n2 n2 z1 (Nat.le_trans z1 (by decide)) e3 ?hd1 ?hu1 ?_)
        case hf => rfl
        case hk => first | rfl | assumption
        case B => k_asm
        case X => k_in
        case T => k_asm
        case hd1 => k_room
        case hu1 => ke_room
        clear N8 F8
        intro h9 tk10 F8 N8
        k_steps
        refine Stop.into ?_
        (rename News _ _ _ _ => N8)
        refine law_end N8 (by k_mem) (by k_mem) rfl rfl rfl (by ke_room) ?_
        k_steps
end
end
end Mine
theorem PySem.Challenge.cw_on0297_01_holds : PySem.Challenge.rw_on0297_01.Holds :=
  Mine.law0
