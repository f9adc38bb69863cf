import PyProof.Rows.All
import Wide.All
import OpenK.AllK
import Wide.FinOn
import PySem.Challenge.RW_np0028_01
set_option compiler.extract_closed false
set_option linter.unusedVariables false

section HdX
open PySem PySem.W PyProof.Rows
set_option Elab.async false
namespace Mine
def runT (stp : SharedT → Thread → Option (SharedT × Thread)) (ok : Thread → Bool) : Nat → SharedT → Thread → Option SharedT
  | 0, _, _ => none
  | n + 1, s, t => match through t with
    | true => some s
    | false => match ok t with
      | false => none
      | true => match stp s t with
        | some (s', t') => runT stp ok n s' t'
        | none => none
theorem runT_spec {tb : String → Option Builtin} {p : Program} {w : World} {n₀ : Nat} {ann : Option Value} : ∀ (n : Nat) (s : SharedT) (t : Thread) (s' : SharedT),
    runT (stepT (denote tb) p w) (stepOk n₀ ann) n s t = some s' → topRun tb p w n₀ ann n s.abs t = some s'.abs
  | 0, _, _, _, h => by simp [runT] at h
  | n + 1, s, t, s', h => by
    unfold runT at h
    unfold topRun
    cases ht : through t with
    | true => rw [ht] at h; cases h; rfl
    | false =>
      rw [ht] at h
      cases hk : stepOk n₀ ann t with
      | false => rw [hk] at h; cases h
      | true =>
        rw [hk] at h
        cases hs : stepT (denote tb) p w s t with
        | none => rw [hs] at h; cases h
        | some r => obtain ⟨s₂, t₂⟩ := r; rw [hs] at h; rw [stepT_spec hs]; exact runT_spec n s₂ t₂ s' h
noncomputable def bootTree (P : Params) : BT := ((boot_heap P).objs.toList.zipIdx).foldl (fun t x => t.ins x.2 x.1) .nil
noncomputable abbrev pw := PySem.Challenge.pw_np0028_01
noncomputable abbrev pwT := PySem.Challenge.pw_np0028_01
theorem pw_eq : pw = pwT := rfl
def keep : List Nat := [0, 2, 4, 5, 6, 7, 8, 9, 10, 11, 13, 15, 16, 17, 18, 19, 20, 21, 22, 24, 26, 27, 28, 29, 30, 31, 32, 33]
noncomputable def s0 (P : Params) (os : OsState) : SharedT := ⟨bootTree P, 11, (boot_heap P).life, Array.mk [], boot_drawn, boot_toks, os⟩
theorem s0_abs : ∀ (P : Params), (fun os => (s0 P os).abs) = fun os => ⟨boot_heap P, Array.mk [], boot_drawn, boot_toks, os⟩ := by
  intro P; kernel_rfl!
theorem left_of {p q : Program} {loose : List Str} {Xt : Shared → Bool} {α : Type} {Yf : Shared → α} {Ya : World → α} {N : Nat} {g0 : Bool} {H₀ : Params → Heap} {gs₀ : Array GenState} {d₀ : Drawn} {k₀ : Nat} {m₀ : Nat} {ann : Option Value} {M : Nat} {S0 : Params → OsState → SharedT}
    (open_ : ∀ w : World, (fencedOpening treeTable p w N).map (fun s => (s.heap, s.gens, s.drawn, s.toks)) = some (H₀ w.params, gs₀, d₀, k₀))
    (size : ∀ w : World, ((H₀ w.params).isNs mainGlobals && gs₀.size == 0, (H₀ w.params).objs.size, (H₀ w.params).nsMap mainGlobals "__annotations__") = (true, m₀, ann))
    (abs : ∀ P : Params, (fun os => (S0 P os).abs) = fun os => ⟨H₀ P, gs₀, d₀, k₀, os⟩)
    (run : ∀ w : World, (fun os => (runT (stepT (denote treeTable) p w) (stepOk m₀ ann) M (S0 w.params os) (topStub p)).map (fun s =>
        ((staticsOk (importedModules p.main.body) (H₀ w.params) s.abs.heap && namesBound p s.abs.heap && gensDone s.abs && laidKept (H₀ w.params) s.abs.heap),
          openSeen q loose (importedModules p.main.body) Xt g0 s.abs, Yf s.abs))) = fun _ => some (true, openGood q loose, Ya w))
    (le : Nat.ble M N = true) : LeftO p q loose Xt Yf Ya N g0 := fun w => by
  obtain ⟨⟨h, gs, d, k, os⟩, e, e'⟩ := Option.map_eq_some_iff.mp (open_ w)
  obtain ⟨rfl, rfl, rfl, rfl⟩ : h = H₀ w.params ∧ gs = gs₀ ∧ d = d₀ ∧ k = k₀ := by simpa using e'
  obtain ⟨z1, z2, z3⟩ : _ ∧ _ ∧ _ := by simpa only [Prod.mk.injEq] using size w
  obtain ⟨s', hs', hl⟩ := Option.map_eq_some_iff.mp (congrFun (run w) os)
  obtain ⟨l1, l2, l3⟩ : _ ∧ _ ∧ _ := by simpa only [Prod.mk.injEq] using hl
  have r0 := runT_spec _ _ _ _ hs'
  have hab := congrFun (abs w.params) os
  rw [hab] at r0
  have r := topRun_mono (N - M) _ _ _ _ r0
  rw [show M + (N - M) = N by have := Nat.le_of_ble_eq_true le; omega] at r
  have t : topFrom treeTable p w N ⟨H₀ w.params, gs, d, k, os⟩ = some s'.abs := by
    unfold topFrom
    dsimp only
    rw [z1, z2, z3, r]
    show (match staticsOk (importedModules p.main.body) (H₀ w.params) s'.abs.heap && namesBound p s'.abs.heap && gensDone s'.abs && laidKept (H₀ w.params) s'.abs.heap with | true => _ | false => _) = _
    rw [l1]
  unfold openEnds
  rw [e]
  show (topFrom treeTable p w N _).map _ = _
  rw [t]
  exact congrArg some (Prod.ext l2 l3)
theorem open_at {N : Nat} (h : Nat.ble 600 N = true) : ∀ w : World, (fencedOpening treeTable pw w N).map (fun s => (s.heap, s.gens, s.drawn, s.toks)) = some (boot_heap w.params, Array.mk [], boot_drawn, boot_toks) :=
  boot_open (by kernel_rfl!) h (fun s => by kernel_rfl!)
theorem size_at : ∀ w : World, ((boot_heap w.params).isNs mainGlobals && (Array.mk [] : Array GenState).size == 0, (boot_heap w.params).objs.size, (boot_heap w.params).nsMap mainGlobals "__annotations__") = (true, 11, some (.ref 6)) := by
  intro w; kernel_rfl!
theorem step_tw : @stepT = @PySem.W.Fast.tw10156331382660048174 := PySem.W.Fast.te10156331382660048174
theorem den_tw : @denote = @PySem.W.Fast.tw11892475500146522536 := PySem.W.Fast.te11892475500146522536
theorem tab_tw : treeTable = PySem.W.Fast.tw14364793385576792824 := PySem.W.Fast.te14364793385576792824
theorem ok_tw : @stepOk = @PySem.W.Fast.tw6613529449190102663 := PySem.W.Fast.te6613529449190102663
theorem seen_tw : @openSeen = @PySem.W.Fast.tw4187177175401517315 := PySem.W.Fast.te4187177175401517315
theorem imp_tw : @importedModules = @PySem.W.Fast.tw5923862056798008813 := PySem.W.Fast.te5923862056798008813
theorem run_of {loose : List Str} {Xt : Program → Shared → Bool} {α : Type} {Yf : Shared → α} {Ya : World → α} {g0 : Bool} {M : Nat} 
    (run : ∀ w : World, (fun os => (runT (PySem.W.Fast.tw10156331382660048174 (PySem.W.Fast.tw11892475500146522536 PySem.W.Fast.tw14364793385576792824) pwT w) (PySem.W.Fast.tw6613529449190102663 11 (some (.ref 6))) M (s0 w.params os) (topStub pwT)).map (fun s =>
        ((staticsOk (PySem.W.Fast.tw5923862056798008813 pwT.main.body) (boot_heap w.params) s.abs.heap && namesBound pwT s.abs.heap && gensDone s.abs && laidKept (boot_heap w.params) s.abs.heap),
          PySem.W.Fast.tw4187177175401517315 (view pwT keep) loose (PySem.W.Fast.tw5923862056798008813 pwT.main.body) (Xt pwT) g0 s.abs, Yf s.abs))) = fun _ => some (true, openGood (view pwT keep) loose, Ya w)) :
    ∀ w : World, (fun os => (runT (stepT (denote treeTable) pw w) (stepOk 11 (some (.ref 6))) M (s0 w.params os) (topStub pw)).map (fun s =>
        ((staticsOk (importedModules pw.main.body) (boot_heap w.params) s.abs.heap && namesBound pw s.abs.heap && gensDone s.abs && laidKept (boot_heap w.params) s.abs.heap),
          openSeen (view pw keep) loose (importedModules pw.main.body) (Xt pw) g0 s.abs, Yf s.abs))) = fun _ => some (true, openGood (view pw keep) loose, Ya w) := by
  rw [step_tw, den_tw, tab_tw, ok_tw, seen_tw, imp_tw, pw_eq]
  exact run

theorem said : PySem.Challenge.rw_np0028_01.wellSaid = true := (congrFun PySem.W.Fast.te9446332074065402090 _).trans (by decide +kernel)
def loose : List Str := [Str.ofString "NIL", Str.ofString "T", Str.ofString "list_of"]
def Xt (p : Program) (s : Shared) : Bool := xlAt (view p keep) [] s && recOk (RowW.records PySem.Challenge.rw_np0028_01.row.toRowW) s
set_option hygiene false in
local macro_rules | `(tactic| o_head $H) => `(tactic| (refine holds_open (r := PySem.Challenge.rw_np0028_01.row) (q := view Mine.pw Mine.keep) (loose := Mine.loose) (Xt := Mine.Xt Mine.pw) (XP := XL (view Mine.pw Mine.keep) []) (Yf := Hook.obs $H) (Ya := Hook.val $H) (YP := Hook.says $H) (N := 6092) ?hl (Hook.of $H) (Hook.keeps $H) (fun s e => xl_of s (Bool.and_eq_true_iff.mp e).1) XL.keeps (by rfl) (by rfl) (by rfl) (fun s e => recFacts_of (Bool.and_eq_true_iff.mp e).2) (by rfl) (by first | assumption | decide +kernel) (by decide +kernel) ⟨rfl, rfl, rfl, rfl, rfl, by decide +kernel⟩ ?hw ?hc; (case hl => exact Mine.left_of (Mine.open_at rfl) Mine.size_at Mine.s0_abs (Mine.run_of (M := 3000) (fun w => by kernel_rfl!)) rfl)))
local macro_rules | `(tactic| o_law) => `(tactic| (refine holds_law Mine.said fun said => ?_))
set_option maxRecDepth 100000 in
set_option maxHeartbeats 8000000 in
open_top hd for PySem.Challenge.rw_np0028_01
end Mine
end HdX

section TkX
set_option autoImplicit true
namespace Mine
open PySem PySem.Calls PyProof.Rows PyProof.V PySem.Spec
theorem runs_tok {M : Model} {Γ : PySem.Ctx} {p : Pos} {t : Sem Fin} {fs : List Frame} {s s' : Shared} {e : End} (h : Runs M Γ p t fs s e s') : s.toks ≤ s'.toks := by
  induction h <;> (try simp only [Shared.setGen] at *) <;> omega
theorem wakes_tok {M : Model} {Γ : PySem.Ctx} {p : Pos} {g : Nat} {r : Resume} {s s' : Shared} {res : GenResult} (h : Wakes M Γ p g r s res s') : s.toks ≤ s'.toks := by
  unfold Wakes at h
  split at h
  · exact h.elim
  · split at h
    · obtain ⟨e₁, s₁, h, -, -, rfl⟩ := h
      have := runs_tok h
      exact this
    · obtain ⟨-, rfl⟩ := h; exact Nat.le_refl _
    · obtain ⟨-, rfl⟩ := h; exact Nat.le_refl _
  · obtain ⟨e₁, s₁, h, -, -, rfl⟩ := h
    have := runs_tok h
    exact this
  · obtain ⟨-, rfl⟩ := h; exact Nat.le_refl _
  · obtain ⟨-, rfl⟩ := h; exact Nat.le_refl _
theorem wp_tok {α : Type} {M : Model} {Γ : PySem.Ctx} (t : Sem α) : ∀ {Q : α → Pos → Shared → Prop} {E : Value → Pos → Shared → Prop} {p : Pos} {s : Shared}, Sem.wp M Γ t Q E p s → Sem.wp M Γ t (fun a p' s' => s.toks ≤ s'.toks ∧ Q a p' s') (fun a p' s' => s.toks ≤ s'.toks ∧ E a p' s') p s := by
  have up : ∀ {t : Sem α} {Q : α → Pos → Shared → Prop} {E : Value → Pos → Shared → Prop} {p : Pos} {s₁ : Shared} {n : Nat}, n ≤ s₁.toks → Sem.wp M Γ t (fun a p' s' => s₁.toks ≤ s'.toks ∧ Q a p' s') (fun a p' s' => s₁.toks ≤ s'.toks ∧ E a p' s') p s₁ →
      Sem.wp M Γ t (fun a p' s' => n ≤ s'.toks ∧ Q a p' s') (fun a p' s' => n ≤ s'.toks ∧ E a p' s') p s₁ := fun le h =>
    Sem.wp_mono M Γ _ (fun _ _ _ h => ⟨Nat.le_trans le h.1, h.2⟩) (fun _ _ _ h => ⟨Nat.le_trans le h.1, h.2⟩) _ _ h
  induction t <;> intro Q E p s h <;> rw [Sem.wp] at h ⊢
  case pure => exact ⟨Nat.le_refl _, h⟩
  case raise => exact ⟨Nat.le_refl _, h⟩
  case load ih => obtain ⟨o, e, h⟩ := h; exact ⟨o, e, ih _ h⟩
  case update ih => exact ⟨h.1, up (Nat.le_refl _) (ih _ h.2)⟩
  case choose ih => exact ⟨h.1, up (Nat.le_refl _) (ih _ h.2)⟩
  case genState ih => obtain ⟨o, e, h⟩ := h; exact ⟨o, e, ih _ h⟩
  case call ih => obtain ⟨r, s', a, b⟩ := h; exact ⟨r, s', a, up (runs_tok a) (ih _ b)⟩
  case resume ih => obtain ⟨r, s', a, b⟩ := h; exact ⟨r, s', a, up (wakes_tok a) (ih _ b)⟩
  case fresh ih => exact up (Nat.le_succ _) (ih _ h)
  all_goals first | exact h.elim | (rename_i ih; exact ih _ h) | (rename_i ih; exact up (Nat.le_refl _) (ih _ h))
theorem wpAny_tok {α : Type} {M : Model} {A : Around} {t : Sem α} {Q : α → Shared → Prop} {E : Value → Shared → Prop} {s : Shared} (h : wpAny M A t (fun a s' => s.toks ≤ s'.toks → Q a s') E s) : wpAny M A t Q E s :=
  fun Γ p hΓ => by
    refine Sem.wp_mono M Γ t ?_ ?_ p s (wp_tok t (h Γ p hΓ))
    · exact fun _ _ _ h => h.2 h.1
    · exact fun _ _ _ h => h.2
theorem gen_tk {α : Type} {M : Model} {A : Around} {x : Sem α} {Q : α → Shared → Prop} {E : Value → Shared → Prop} {h : Heap} {g : Array GenState} {d : Drawn} {t : Nat} {os : OsState} (H : ∀ tk, t ≤ tk → wpAny M A x Q E ⟨h, g, d, tk, os⟩) : wpAny M A x Q E ⟨h, g, d, t, os⟩ := H t (Nat.le_refl t)
end Mine
end TkX

namespace Mine
open PySem PySem.W PySem.Calls PyProof.Rows in
theorem rstBase {M : Model} {A : Around} {env : Env} {Q : Flow → Shared → Prop} {E : Value → Shared → Prop} {s : Shared} (h : Q Flow.next s) : wpAny M A (execs [] env) Q E s := by
  w_top off
  first | (walk1; exact h) | exact wpAny_execs_nil h
end Mine
section BaseX
open PySem PySem.W PySem.Calls PyProof.Rows
set_option Elab.async false
set_option maxRecDepth 100000
namespace Mine
abbrev Ar (dp un : Nat) (gd : Option (List Code)) (outer : List Env) : Around := { handled := none, depth := dp, frames := some outer, guards := gd, units := un }

theorem fill : hd.heap_1 = hd.heap_1 ∧ PySem.Challenge.rw_np0028_01 = PySem.Challenge.rw_np0028_01 := by
  k_fill
  exact ⟨rfl, rfl⟩
structure Gd (w : World) (W : List Addr) (outer : List Env) (h : Heap) : Prop where
  ex : ∃ base p loose mean mg mb, base.StaysIn (hideAll h W) ∧ (hideAll h W).FunFrames base outer ∧ Top p loose mean mg mb (hideAll h W)
  X : (hd.heap_1 w.params).In (hideAll h W)

def Frame (W : List Addr) (h h' : Heap) : Prop := ∀ b o, b ∉ W → h.get? b = some o → h'.get? b = some o
theorem Frame.refl (W : List Addr) (h : Heap) : Frame W h h := fun _ _ _ e => e
theorem Frame.trans {W : List Addr} {h h' h'' : Heap} (a : Frame W h h') (b : Frame W h' h'') : Frame W h h'' := fun x o n e => b x o n (a x o n e)
theorem Frame.of_Fr {W : List Addr} {h h' : Heap} {L : Addr} {m : Str → Option Value} (F : Fr (hideAll h W) L h' m) : Frame W h h' := fun b o n e => F.keep b o (hideAll_get W e n)

section
variable {w : World} {outer : List Env} {W W' : List Addr} {h₀ h h' : Heap} {L : Addr} {m : Str → Option Value} {env : Env} {news news' : List (Addr × Obj)}
theorem Gd.push (G : Gd w W outer h₀) (F : Fr (hideAll h₀ W) L h m) (hW : ∀ a ∈ W', a ≠ L ∧ (hideAll h₀ W).get? a = none) (hf : env.frame = some L := by rfl) (hk : env.scope.kind = .function := by rfl) : Gd w W' (env :: outer) h := by
  have st : (hideAll h₀ W).StaysIn (hideAll h W') := fun b o e => hideAll_get W' (F.keep b o e) fun q => by rw [(hW b q).2] at e; cases e
  obtain ⟨base, p, loose, mean, mg, mb, h1, h2, T⟩ := G.ex
  refine ⟨⟨base, p, loose, mean, mg, mb, fun b o e => st b o (h1 b o e), ?_, T.keeps st⟩, G.X.keeps st⟩
  obtain ⟨oL, es, ep, hL, hLd, -, -⟩ := F.ns
  refine ⟨by rw [hk]; decide, ⟨L, oL, hf, ?_, hideAll_get W' hL fun q => (hW L q).1 rfl, fun vs => by rw [hLd]; exact fun e => by cases e⟩, h2.of_keeps fun b o e _ => ⟨o, st b o e, rfl⟩⟩
  cases q : base.get? L with
  | none => rfl
  | some o => exact absurd (Nat.lt_of_lt_of_le (Heap.lt_size (h1 L o q)) F.above) (Nat.lt_irrefl _)
theorem Gd.push0 (G : Gd w W outer h₀) (F : Fr (hideAll h₀ W) L h m) (hf : env.frame = some L := by rfl) (hk : env.scope.kind = .function := by rfl) : Gd w [] (env :: outer) h :=
  G.push F (fun _ hq => nomatch hq) hf hk
theorem after0F {g : Heap} (F : Fr g L h m) (fr : Frame [] h h') : Fr g L h' m := by
  obtain ⟨oL, es, ep, hL, r⟩ := F.ns
  exact ⟨⟨oL, es, ep, fr _ _ (fun hq => nomatch hq) hL, r⟩, fun b o e => fr _ _ (fun hq => nomatch hq) (F.keep b o e), F.above⟩
theorem after0N {g : Heap} (N : News g L h news) (fr : Frame [] h h') : News g L h' news := fun p hp => ⟨fr _ _ (fun hq => nomatch hq) (N p hp).1, (N p hp).2⟩
theorem lkH {g : Heap} {lk : Addr → Obj → Prop} (F : Fr g L h m) (hl : ∀ a o, lk a o → g.get? a = some o) : ∀ a o, lk a o → (hideAll h []).get? a = some o := fun a o e => F.keep a o (hl a o e)
theorem inst_g {g : Heap} {x C dx : Addr} {od : Obj} {sl : Array (Option Value)} (F : Fr g L h m) (h1 : g.get? x = some ⟨.ref C, some dx, .plain, sl⟩) (h2 : g.get? dx = some od) :
    InstAt h x ⟨.ref C, some dx, .plain, sl⟩ C (some od) := ⟨F.keep _ _ h1, rfl, rfl, F.keep _ _ h2⟩
end

section
variable {w : World} {outer : List Env} {W : List Addr} {s : Shared} {dp un : Nat} {gd : Option (List Code)} {R : Result → Shared → Prop}
  {name qual : Str} {params : Arguments} {body : List Stmt} {scope : Scope} {dV kV doc pm cdv ct oc : Value} {an od : Option Addr} {osl : Array (Option Value)} {f : Addr} {args : Args} {binds : List (Str × Value)}

theorem enterT (G : Gd w W outer s.heap) (hroom : dp < recursionLimit)
    (ho : (hd.heap_1 w.params).lookup f = some ⟨oc, od, .func (fnOf name qual params body scope dV kV doc pm an cdv ct), osl⟩) (hcd : codeIn (hd.heap_1 w.params) cdv qual = true)
    (hbind : BindsTo s (fnOf name qual params body scope dV kV doc pm an cdv ct) args binds) (hloc : ∀ y ∈ binds, scope.names.lookup y.1 = some .local)
    (hco : scope.isCoroutine = false) (hgen : scope.isGenerator = false) (hk : scope.kind = .function) (hcell : ∀ x ∈ scope.names, x.2 ≠ .cell)
    (h : ∀ base p loose mean mg mb h₁ tk, s.toks + binds.length ≤ tk → Fr (hideAll s.heap W) s.heap.objs.size h₁ (fun y => binds.reverse.lookup y) →
      (∀ news : List (Addr × Obj), (∀ q ∈ news, q.1 ∈ W ∧ s.heap.get? q.1 = some q.2) → News (hideAll s.heap W) s.heap.objs.size h₁ news) →
      Below (Ar dp un gd outer) base outer (hideAll s.heap W) → Top p loose mean mg mb (hideAll s.heap W) →
      wpAny (model PySem.Challenge.rw_np0028_01.row.prog w) ((Ar dp un gd outer).deeper (envOf qual scope s.heap.objs.size f cdv)) (execs body (envOf qual scope s.heap.objs.size f cdv))
        (fun fl s' => R (.ok (.ret (match fl with | .ret v => v | _ => .none))) s') (fun _ _ => False) { s with heap := h₁, toks := tk }) :
    codeAny (model PySem.Challenge.rw_np0028_01.row.prog w) (Ar dp un gd outer) (.call (.ref f) args) R s := by
  obtain ⟨base, p, loose, mean, mg, mb, h1, h2, T⟩ := G.ex
  have st : (hideAll s.heap W).StaysIn s.heap := fun b o e => of_hideAll W e
  refine codeAny_call_def (fd := fnOf name qual params body scope dV kV doc pm an cdv ct) (body := body) (binds := binds) hroom (st _ _ (G.X _ _ ho)) rfl (T.nolimit.keeps st) ((codeRec_of G.X hcd).keeps st) rfl hbind hcell hloc (fun h₁ hns hk₁ => ?_) hco hgen hk
  refine wpAny_mono (h base p loose mean mg mb h₁ _ (Nat.le_refl _) ⟨hns, fun b o e => hk₁ b o (of_hideAll W e), Nat.le_of_eq (hideAll_size _ _)⟩ (fun news hn q hq => ?_) ⟨rfl, h1, h2⟩ T) (fun _ _ y => y) fun _ _ y => y.elim
  obtain ⟨a, b⟩ := hn q hq
  exact ⟨hk₁ _ _ b, Nat.ne_of_lt (Heap.lt_size b), hideAll_none W a⟩
theorem enter (G : Gd w W outer s.heap) (hroom : dp < recursionLimit)
    (ho : (hd.heap_1 w.params).lookup f = some ⟨oc, od, .func (fnOf name qual params body scope dV kV doc pm an cdv ct), osl⟩) (hcd : codeIn (hd.heap_1 w.params) cdv qual = true)
    (hbind : BindsTo s (fnOf name qual params body scope dV kV doc pm an cdv ct) args binds) (hloc : ∀ y ∈ binds, scope.names.lookup y.1 = some .local)
    (hco : scope.isCoroutine = false) (hgen : scope.isGenerator = false) (hk : scope.kind = .function) (hcell : ∀ x ∈ scope.names, x.2 ≠ .cell)
    (h : ∀ base p loose mean mg mb h₁ tk, Fr (hideAll s.heap W) s.heap.objs.size h₁ (fun y => binds.reverse.lookup y) →
      (∀ news : List (Addr × Obj), (∀ q ∈ news, q.1 ∈ W ∧ s.heap.get? q.1 = some q.2) → News (hideAll s.heap W) s.heap.objs.size h₁ news) →
      Below (Ar dp un gd outer) base outer (hideAll s.heap W) → Top p loose mean mg mb (hideAll s.heap W) →
      wpAny (model PySem.Challenge.rw_np0028_01.row.prog w) ((Ar dp un gd outer).deeper (envOf qual scope s.heap.objs.size f cdv)) (execs body (envOf qual scope s.heap.objs.size f cdv))
        (fun fl s' => R (.ok (.ret (match fl with | .ret v => v | _ => .none))) s') (fun _ _ => False) { s with heap := h₁, toks := tk }) :
    codeAny (model PySem.Challenge.rw_np0028_01.row.prog w) (Ar dp un gd outer) (.call (.ref f) args) R s :=
  enterT G hroom ho hcd hbind hloc hco hgen hk hcell fun base p loose mean mg mb h₁ tk _ F hN B T => h base p loose mean mg mb h₁ tk F hN B T
end

/-! data -/
mutual
inductive D where
  | int (i : Int)
  | sym (a : Addr)
  | text (a : Addr) (cs : List Int) (sp : Option Int)
  | cons (a : Addr) (x y : D)
  | vec (a : Addr) (k : Bool) (l : DL)
inductive DL where
  | nil
  | cons (d : D) (l : DL)
end
abbrev ent (w : World) (x : String) (t : Tok) (v : Value) : DictEntry := ⟨PyData.keyHash w.params (Str.ofString x), .str (Str.ofString x) t, v⟩
abbrev tupO (vs : List Value) (n : Nat) : Obj := { cls := .type "tuple", data := .seq vs.toArray n }
def SpAt (lk : Addr → Obj → Prop) : Option Int → Value → Prop
  | none, v => v = .none
  | some k, v => ∃ y t n n' t1 t2 t3, v = .ref y ∧ lk y (listOf #[.ref t] n) ∧ lk t (tupO [.int 0 t1, .int 1 t2, .int k t3] n')
def DL.len : DL → Nat
  | .nil => 0
  | .cons _ l => l.len + 1
mutual
def At (w : World) (lk : Addr → Obj → Prop) : D → Value → Prop
  | .int i, v => ∃ t, v = .int i t
  | .sym a, v => v = .ref a ∧ ∃ da es n, lk a (instObj 58 da) ∧ lk da (dictOf es n)
  | .text a cs sp, v => v = .ref a ∧ ∃ da c n vs t1 t2 sv, lk a (instObj 107 da) ∧ lk da (dictOf [ent w "codes" t1 (.ref c), ent w "spans" t2 sv] 2) ∧ lk c (listOf vs.toArray n) ∧ IntsAre vs cs ∧ cs.length ≤ 2 ∧ SpAt lk sp sv
  | .cons a x y, v => v = .ref a ∧ ∃ da v1 v2 t1 t2, lk a (instObj 85 da) ∧ lk da (dictOf [ent w "car" t1 v1, ent w "cdr" t2 v2] 2) ∧ At w lk x v1 ∧ At w lk y v2
  | .vec a k l, v => v = .ref a ∧ ∃ da x n vs t, lk a (instObj (if k then 149 else 128) da) ∧ lk da (dictOf [ent w "things" t (.ref x)] 1) ∧ lk x (listOf vs.toArray n) ∧ Ats w lk l vs ∧ l.len ≤ 3
def Ats (w : World) (lk : Addr → Obj → Prop) : DL → List Value → Prop
  | .nil, vs => vs = []
  | .cons d l, vs => ∃ v r, vs = v :: r ∧ At w lk d v ∧ Ats w lk l r
end
theorem SpAt.mono {lk lk' : Addr → Obj → Prop} (hl : ∀ a o, lk a o → lk' a o) : ∀ {sp v}, SpAt lk sp v → SpAt lk' sp v
  | none, _, h => h
  | some _, _, ⟨y, t, n, n', t1, t2, t3, e, a, b⟩ => ⟨y, t, n, n', t1, t2, t3, e, hl _ _ a, hl _ _ b⟩
mutual
theorem At.mono {w : World} {lk lk' : Addr → Obj → Prop} (hl : ∀ a o, lk a o → lk' a o) : ∀ {d : D} {v : Value}, At w lk d v → At w lk' d v
  | .int _, _, h => by simpa only [At] using h
  | .sym _, _, h => by simp only [At] at h ⊢; obtain ⟨e, da, es, n, a, b⟩ := h; exact ⟨e, da, es, n, hl _ _ a, hl _ _ b⟩
  | .text _ _ _, _, h => by
    simp only [At] at h ⊢
    obtain ⟨e, da, c, n, vs, t1, t2, sv, a, b, c', i, z, sp⟩ := h
    exact ⟨e, da, c, n, vs, t1, t2, sv, hl _ _ a, hl _ _ b, hl _ _ c', i, z, sp.mono hl⟩
  | .cons _ _ _, _, h => by
    simp only [At] at h ⊢
    obtain ⟨e, da, v1, v2, t1, t2, a, b, x, y⟩ := h
    exact ⟨e, da, v1, v2, t1, t2, hl _ _ a, hl _ _ b, x.mono hl, y.mono hl⟩
  | .vec _ _ _, _, h => by
    simp only [At] at h ⊢
    obtain ⟨e, da, x, n, vs, t, a, b, c, l, z⟩ := h
    exact ⟨e, da, x, n, vs, t, hl _ _ a, hl _ _ b, hl _ _ c, l.mono hl, z⟩
theorem Ats.mono {w : World} {lk lk' : Addr → Obj → Prop} (hl : ∀ a o, lk a o → lk' a o) : ∀ {l : DL} {vs : List Value}, Ats w lk l vs → Ats w lk' l vs
  | .nil, _, h => by simpa only [Ats] using h
  | .cons _ _, _, h => by
    simp only [Ats] at h ⊢
    obtain ⟨v, r, e, a, b⟩ := h
    exact ⟨v, r, e, a.mono hl, b.mono hl⟩
end
theorem roomZ {a b n : Nat} (h : a + b < n) : a < n := Nat.lt_of_le_of_lt (Nat.le_add_right a b) h
theorem room0 {a b c n : Nat} (h : a + b < n) (e : Nat.ble c b = true) : a + c < n := Nat.lt_of_le_of_lt (Nat.add_le_add_left (Nat.le_of_ble_eq_true e) a) h
theorem room1 {a b c d n : Nat} (h : a + b < n) (e : Nat.ble (c + d) b = true) : a + c + d < n := by rw [Nat.add_assoc]; exact room0 h e
theorem room2 {a b c d f n : Nat} (h : a + b < n) (e : Nat.ble (c + d + f) b = true) : a + c + d + f < n := by rw [Nat.add_assoc a c d, Nat.add_assoc a (c + d) f]; exact room0 h e
end Mine
end BaseX

section GrpT1X0
open PySem PySem.W PySem.Calls PyProof.Rows
set_option Elab.async false
set_option maxRecDepth 100000
namespace Mine
local macro_rules | `(tactic| k_inst) => `(tactic| exact inst_g (by k_asm) (by k_asm) (by k_asm))
open PySem PySem.W PySem.Calls PyProof.Rows in
theorem rstT1 {M : Model} {A : Around} {env : Env} {Q : Flow → Shared → Prop} {E : Value → Shared → Prop} {s : Shared} (h : Q Flow.next s) : wpAny M A (execs [] env) Q E s := by
  w_top off
  first | (walk1; exact h) | exact wpAny_execs_nil h
section T1X
open PySem PySem.W PySem.Calls PyProof.Rows
set_option Elab.async false
set_option maxRecDepth 100000
def D.isInt : D → Bool
  | .int _ => true
  | _ => false
set_option maxHeartbeats 4000000 in
theorem is_whole_spec {w : World} {outer : List Env} {W : List Addr} {s : Shared} {dp un : Nat} {gd : Option (List Code)} {lk : Addr → Obj → Prop} {d : D} {v : Value} {Q E : Value → Shared → Prop}
    (G : Gd w W outer s.heap) (hlk : ∀ a o, lk a o → (hideAll s.heap W).get? a = some o) (hd : At w lk d v) (hdp : dp + 1 < recursionLimit) (hun : un + 20 < cLine)
    (ret : ∀ h' tk', Frame W s.heap h' → Q (.bool d.isInt) { s with heap := h', toks := tk' }) :
    wpAny (model PySem.Challenge.rw_np0028_01.row.prog w) (Ar dp un gd outer) (call (.ref 203) [v]) Q E s := by
  refine wpAny_call ?_
  refine enter (binds := [(Str.ofString "datum", v)]) G (by omega) (by k_is) (by k_is) (BindsTo.of_eq rfl) (locs rfl) rfl rfl rfl (by decide) ?_
  intro base p loose mean mg mb h₁ tk₁ F hN B T
  have X := G.X
  have N := hN [] (fun _ hq => nomatch hq)
  clear hN B
  try k_fold
  cases d <;> simp only [At] at hd
  case int i => obtain ⟨t, rfl⟩ := hd; k_steps; exact ret _ _ (Frame.of_Fr (by assumption))
  case sym a => obtain ⟨rfl, da, es, n, h1, h2⟩ := hd; replace h1 := hlk _ _ h1; replace h2 := hlk _ _ h2; k_steps; exact ret _ _ (Frame.of_Fr (by assumption))
  case text a cs sp => obtain ⟨rfl, da, c, n, vs, t1, t2, sv, h1, h2, -⟩ := hd; replace h1 := hlk _ _ h1; replace h2 := hlk _ _ h2; k_steps; exact ret _ _ (Frame.of_Fr (by assumption))
  case cons a x y => obtain ⟨rfl, da, v1, v2, t1, t2, h1, h2, -⟩ := hd; replace h1 := hlk _ _ h1; replace h2 := hlk _ _ h2; k_steps; exact ret _ _ (Frame.of_Fr (by assumption))
  case vec a k l =>
    obtain ⟨rfl, da, x, n, vs, t, h1, h2, -⟩ := hd
    replace h1 := hlk _ _ h1; replace h2 := hlk _ _ h2
    cases k <;> simp only [if_true, if_false, Bool.false_eq_true] at h1 <;> (k_steps; exact ret _ _ (Frame.of_Fr (by assumption)))
local macro_rules | `(tactic| walk_at "call ref") => `(tactic| (
  (with_reducible show wpAny _ _ (call (Value.ref 203) _) _ _ _);
  refine' is_whole_spec (W := []) ?k1 ?k2 ?k3 ?k4 ?k5 ?_;
  (case k3 => assumption); (case k1 => exact Gd.push0 (by assumption) (by k_asm)); (case k2 => exact lkH (by k_asm) (by assumption)); (case k4 => (try dsimp only); omega); (case k5 => (try dsimp only); omega);
  (intro h' tk' fr'; have F' := after0F (by k_asm) fr'; have N' := after0N (by k_asm) fr'; clear fr'; (try k_sweep); (try dsimp only))))
def D.ref : D → Option Addr
  | .int _ => none
  | .sym a => some a
  | .text a _ _ => some a
  | .cons a _ _ => some a
  | .vec a _ _ => some a
def D.same : D → D → Bool
  | .int i, .int j => i == j
  | d, e => d.ref.isSome && d.ref == e.ref
theorem At.int_of {w : World} {lk : Addr → Obj → Prop} {d : D} {v : Value} (h : At w lk d v) (e : d.isInt = true) : ∃ i t, d = .int i ∧ v = .int i t := by
  cases d <;> simp only [At, D.isInt, Bool.false_eq_true] at h e
  obtain ⟨t, rfl⟩ := h
  exact ⟨_, t, rfl, rfl⟩
theorem At.ref_of {w : World} {lk : Addr → Obj → Prop} {d : D} {v : Value} (h : At w lk d v) (e : d.isInt = false) : ∃ a, d.ref = some a ∧ v = .ref a := by
  cases d <;> simp only [At, D.isInt, Bool.true_eq_false] at h e
  all_goals exact ⟨_, rfl, h.1⟩
theorem same_mixed {d e : D} (h : d.isInt ≠ e.isInt) : d.same e = false := by
  cases d <;> cases e <;> simp_all [D.isInt, D.same, D.ref]
theorem same_ref {d e : D} {a b : Addr} (h : d.ref = some a) (h' : e.ref = some b) : d.same e = (a == b) := by
  cases d <;> cases e <;> simp_all [D.same, D.ref]
theorem At.obj {w : World} {lk : Addr → Obj → Prop} {d : D} {v : Value} {a : Addr} (h : At w lk d v) (e : d.ref = some a) : ∃ C dx, lk a (instObj C dx) := by
  cases d <;> simp only [At, D.ref, Option.some.injEq, reduceCtorEq] at h e
  case sym => obtain ⟨_, da, es, n, h1, _⟩ := h; exact ⟨_, _, e ▸ h1⟩
  case text => obtain ⟨_, da, c, n, vs, t1, t2, sv, h1, _⟩ := h; exact ⟨_, _, e ▸ h1⟩
  case cons => obtain ⟨_, da, v1, v2, t1, t2, h1, _⟩ := h; exact ⟨_, _, e ▸ h1⟩
  case vec => obtain ⟨_, da, x, n, vs, t, h1, _⟩ := h; exact ⟨_, _, e ▸ h1⟩
theorem is_refs {M : Model} {A : Around} {E : Value → Shared → Prop} {s : Shared} {Q : Value → Shared → Prop} {a b : Addr} {oa ob : Obj} (ha : s.heap.get? a = some oa) (hb : s.heap.get? b = some ob) (hn : oa.cls ≠ .type "tuple")
    (h : Q (.bool (a == b)) s) : wpAny M A (compareOp .Is (.ref a) (.ref b)) Q E s := by
  by_cases e : a = b
  · subst e; exact wpAny_is_ref_self (by simpa using h)
  · refine wpAny_is_ref_other e ha hb hn ?_
    have q : (a == b) = false := by simpa using e
    rw [q] at h; exact h
set_option maxHeartbeats 4000000 in
theorem eq_spec {w : World} {outer : List Env} {W : List Addr} {s : Shared} {dp un : Nat} {gd : Option (List Code)} {lk : Addr → Obj → Prop} {d e : D} {v u : Value} {Q E : Value → Shared → Prop}
    (G : Gd w W outer s.heap) (hlk : ∀ a o, lk a o → (hideAll s.heap W).get? a = some o) (hd : At w lk d v) (he : At w lk e u) (hdp : dp + 2 < recursionLimit) (hun : un + 30 < cLine)
    (ret : ∀ h' tk', Frame W s.heap h' → Q (.bool (d.same e)) { s with heap := h', toks := tk' }) :
    wpAny (model PySem.Challenge.rw_np0028_01.row.prog w) (Ar dp un gd outer) (call (.ref 210) [v, u]) Q E s := by
  refine wpAny_call ?_
  refine enter (binds := [(Str.ofString "one", v), (Str.ofString "other", u)]) G (by omega) (by k_is) (by k_is) (BindsTo.of_eq rfl) (locs rfl) rfl rfl rfl (by decide) ?_
  intro base p loose mean mg mb h₁ tk₁ F hN B T
  have X := G.X
  have N := hN [] (fun _ hq => nomatch hq)
  clear hN B
  try k_fold
  k_steps
  · obtain ⟨i, t, rfl, rfl⟩ := hd.int_of (by assumption)
    obtain ⟨j, t', rfl, rfl⟩ := he.int_of (by assumption)
    k_steps
    exact ret _ _ (Frame.of_Fr (by assumption))
  · have := same_mixed (d := d) (e := e) (by simp_all)
    rw [this] at ret
    simp only [*]
    exact ret _ _ (Frame.of_Fr (by assumption))
  · have := same_mixed (d := d) (e := e) (by simp_all)
    rw [this] at ret
    simp only [*]
    exact ret _ _ (Frame.of_Fr (by assumption))
  · obtain ⟨a, ha, rfl⟩ := hd.ref_of (by assumption)
    obtain ⟨b, hb, rfl⟩ := he.ref_of (by assumption)
    rw [same_ref ha hb] at ret
    obtain ⟨Ca, da, ha⟩ := hd.obj ha
    obtain ⟨Cb, db, hb⟩ := he.obj hb
    k_steps
    refine is_refs (Fr.keep (by k_asm) _ _ (hlk _ _ ha)) (Fr.keep (by k_asm) _ _ (hlk _ _ hb)) (by simp) ?_
    exact ret _ _ (Frame.of_Fr (by assumption))
def D.cls : D → Nat
  | .int _ => 0
  | .sym _ => 58
  | .text _ _ _ => 107
  | .cons _ _ _ => 85
  | .vec _ k _ => if k then 149 else 128
section
variable {w : World} {g : Heap} {L : Addr} {m : Str → Option Value} {s : Shared} {A : Around} {lk : Addr → Obj → Prop} {d : D} {v : Value} {Q E : Value → Shared → Prop}
set_option maxHeartbeats 4000000 in
theorem isi_sym (F : Fr g L s.heap m) (X : (hd.heap_1 w.params).In g) (hlk : ∀ a o, lk a o → g.get? a = some o) (hd : At w lk d v) (kt : ∀ tk, Q (.bool (d.cls == 58)) { s with toks := tk }) :
    wpAny (model PySem.Challenge.rw_np0028_01.row.prog w) A (call (.builtin "isinstance") [v, .ref 58]) Q E s := by
  cases d <;> simp only [At] at hd
  case int i => obtain ⟨t, rfl⟩ := hd; walk1; exact kt _
  case sym a => obtain ⟨rfl, da, es, n, h1, h2⟩ := hd; replace h1 := hlk _ _ h1; replace h2 := hlk _ _ h2; walk1; intros; exact kt _
  case text a cs sp => obtain ⟨rfl, da, c, n, vs, t1, t2, sv, h1, h2, -⟩ := hd; replace h1 := hlk _ _ h1; replace h2 := hlk _ _ h2; walk1; intros; exact kt _
  case cons a x y => obtain ⟨rfl, da, v1, v2, t1, t2, h1, h2, -⟩ := hd; replace h1 := hlk _ _ h1; replace h2 := hlk _ _ h2; walk1; intros; exact kt _
  case vec a k l =>
    obtain ⟨rfl, da, x, n, vs, t, h1, h2, -⟩ := hd
    replace h1 := hlk _ _ h1; replace h2 := hlk _ _ h2
    cases k <;> simp only [if_true, if_false, Bool.false_eq_true] at h1 <;> (walk1; intros; exact kt _)
set_option maxHeartbeats 4000000 in
theorem isi_cons (F : Fr g L s.heap m) (X : (hd.heap_1 w.params).In g) (hlk : ∀ a o, lk a o → g.get? a = some o) (hd : At w lk d v) (kt : ∀ tk, Q (.bool (d.cls == 85)) { s with toks := tk }) :
    wpAny (model PySem.Challenge.rw_np0028_01.row.prog w) A (call (.builtin "isinstance") [v, .ref 85]) Q E s := by
  cases d <;> simp only [At] at hd
  case int i => obtain ⟨t, rfl⟩ := hd; walk1; exact kt _
  case sym a => obtain ⟨rfl, da, es, n, h1, h2⟩ := hd; replace h1 := hlk _ _ h1; replace h2 := hlk _ _ h2; walk1; intros; exact kt _
  case text a cs sp => obtain ⟨rfl, da, c, n, vs, t1, t2, sv, h1, h2, -⟩ := hd; replace h1 := hlk _ _ h1; replace h2 := hlk _ _ h2; walk1; intros; exact kt _
  case cons a x y => obtain ⟨rfl, da, v1, v2, t1, t2, h1, h2, -⟩ := hd; replace h1 := hlk _ _ h1; replace h2 := hlk _ _ h2; walk1; intros; exact kt _
  case vec a k l =>
    obtain ⟨rfl, da, x, n, vs, t, h1, h2, -⟩ := hd
    replace h1 := hlk _ _ h1; replace h2 := hlk _ _ h2
    cases k <;> simp only [if_true, if_false, Bool.false_eq_true] at h1 <;> (walk1; intros; exact kt _)
set_option maxHeartbeats 4000000 in
theorem isi_text (F : Fr g L s.heap m) (X : (hd.heap_1 w.params).In g) (hlk : ∀ a o, lk a o → g.get? a = some o) (hd : At w lk d v) (kt : ∀ tk, Q (.bool (d.cls == 107)) { s with toks := tk }) :
    wpAny (model PySem.Challenge.rw_np0028_01.row.prog w) A (call (.builtin "isinstance") [v, .ref 107]) Q E s := by
  cases d <;> simp only [At] at hd
  case int i => obtain ⟨t, rfl⟩ := hd; walk1; exact kt _
  case sym a => obtain ⟨rfl, da, es, n, h1, h2⟩ := hd; replace h1 := hlk _ _ h1; replace h2 := hlk _ _ h2; walk1; intros; exact kt _
  case text a cs sp => obtain ⟨rfl, da, c, n, vs, t1, t2, sv, h1, h2, -⟩ := hd; replace h1 := hlk _ _ h1; replace h2 := hlk _ _ h2; walk1; intros; exact kt _
  case cons a x y => obtain ⟨rfl, da, v1, v2, t1, t2, h1, h2, -⟩ := hd; replace h1 := hlk _ _ h1; replace h2 := hlk _ _ h2; walk1; intros; exact kt _
  case vec a k l =>
    obtain ⟨rfl, da, x, n, vs, t, h1, h2, -⟩ := hd
    replace h1 := hlk _ _ h1; replace h2 := hlk _ _ h2
    cases k <;> simp only [if_true, if_false, Bool.false_eq_true] at h1 <;> (walk1; intros; exact kt _)
set_option maxHeartbeats 4000000 in
theorem isi_vec (F : Fr g L s.heap m) (X : (hd.heap_1 w.params).In g) (hlk : ∀ a o, lk a o → g.get? a = some o) (hd : At w lk d v) (kt : ∀ tk, Q (.bool (d.cls == 128)) { s with toks := tk }) :
    wpAny (model PySem.Challenge.rw_np0028_01.row.prog w) A (call (.builtin "isinstance") [v, .ref 128]) Q E s := by
  cases d <;> simp only [At] at hd
  case int i => obtain ⟨t, rfl⟩ := hd; walk1; exact kt _
  case sym a => obtain ⟨rfl, da, es, n, h1, h2⟩ := hd; replace h1 := hlk _ _ h1; replace h2 := hlk _ _ h2; walk1; intros; exact kt _
  case text a cs sp => obtain ⟨rfl, da, c, n, vs, t1, t2, sv, h1, h2, -⟩ := hd; replace h1 := hlk _ _ h1; replace h2 := hlk _ _ h2; walk1; intros; exact kt _
  case cons a x y => obtain ⟨rfl, da, v1, v2, t1, t2, h1, h2, -⟩ := hd; replace h1 := hlk _ _ h1; replace h2 := hlk _ _ h2; walk1; intros; exact kt _
  case vec a k l =>
    obtain ⟨rfl, da, x, n, vs, t, h1, h2, -⟩ := hd
    replace h1 := hlk _ _ h1; replace h2 := hlk _ _ h2
    cases k <;> simp only [if_true, if_false, Bool.false_eq_true] at h1 <;> (walk1; intros; exact kt _)
set_option maxHeartbeats 4000000 in
theorem isi_bc (F : Fr g L s.heap m) (X : (hd.heap_1 w.params).In g) (hlk : ∀ a o, lk a o → g.get? a = some o) (hd : At w lk d v) (kt : ∀ tk, Q (.bool (d.cls == 149)) { s with toks := tk }) :
    wpAny (model PySem.Challenge.rw_np0028_01.row.prog w) A (call (.builtin "isinstance") [v, .ref 149]) Q E s := by
  cases d <;> simp only [At] at hd
  case int i => obtain ⟨t, rfl⟩ := hd; walk1; exact kt _
  case sym a => obtain ⟨rfl, da, es, n, h1, h2⟩ := hd; replace h1 := hlk _ _ h1; replace h2 := hlk _ _ h2; walk1; intros; exact kt _
  case text a cs sp => obtain ⟨rfl, da, c, n, vs, t1, t2, sv, h1, h2, -⟩ := hd; replace h1 := hlk _ _ h1; replace h2 := hlk _ _ h2; walk1; intros; exact kt _
  case cons a x y => obtain ⟨rfl, da, v1, v2, t1, t2, h1, h2, -⟩ := hd; replace h1 := hlk _ _ h1; replace h2 := hlk _ _ h2; walk1; intros; exact kt _
  case vec a k l =>
    obtain ⟨rfl, da, x, n, vs, t, h1, h2, -⟩ := hd
    replace h1 := hlk _ _ h1; replace h2 := hlk _ _ h2
    cases k <;> simp only [if_true, if_false, Bool.false_eq_true] at h1 <;> (walk1; intros; exact kt _)
set_option maxHeartbeats 4000000 in
theorem isi_opaque (F : Fr g L s.heap m) (X : (hd.heap_1 w.params).In g) (hlk : ∀ a o, lk a o → g.get? a = some o) (hd : At w lk d v) (kt : ∀ tk, Q (.bool (d.cls == 184)) { s with toks := tk }) :
    wpAny (model PySem.Challenge.rw_np0028_01.row.prog w) A (call (.builtin "isinstance") [v, .ref 184]) Q E s := by
  cases d <;> simp only [At] at hd
  case int i => obtain ⟨t, rfl⟩ := hd; walk1; exact kt _
  case sym a => obtain ⟨rfl, da, es, n, h1, h2⟩ := hd; replace h1 := hlk _ _ h1; replace h2 := hlk _ _ h2; walk1; intros; exact kt _
  case text a cs sp => obtain ⟨rfl, da, c, n, vs, t1, t2, sv, h1, h2, -⟩ := hd; replace h1 := hlk _ _ h1; replace h2 := hlk _ _ h2; walk1; intros; exact kt _
  case cons a x y => obtain ⟨rfl, da, v1, v2, t1, t2, h1, h2, -⟩ := hd; replace h1 := hlk _ _ h1; replace h2 := hlk _ _ h2; walk1; intros; exact kt _
  case vec a k l =>
    obtain ⟨rfl, da, x, n, vs, t, h1, h2, -⟩ := hd
    replace h1 := hlk _ _ h1; replace h2 := hlk _ _ h2
    cases k <;> simp only [if_true, if_false, Bool.false_eq_true] at h1 <;> (walk1; intros; exact kt _)
set_option maxHeartbeats 4000000 in
theorem isi_int (F : Fr g L s.heap m) (X : (hd.heap_1 w.params).In g) (hlk : ∀ a o, lk a o → g.get? a = some o) (hd : At w lk d v) (kt : ∀ tk, Q (.bool d.isInt) { s with toks := tk }) :
    wpAny (model PySem.Challenge.rw_np0028_01.row.prog w) A (call (.builtin "isinstance") [v, .type "int"]) Q E s := by
  cases d <;> simp only [At] at hd
  case int i => obtain ⟨t, rfl⟩ := hd; walk1; exact kt _
  case sym a => obtain ⟨rfl, da, es, n, h1, h2⟩ := hd; replace h1 := hlk _ _ h1; replace h2 := hlk _ _ h2; walk1; intros; exact kt _
  case text a cs sp => obtain ⟨rfl, da, c, n, vs, t1, t2, sv, h1, h2, -⟩ := hd; replace h1 := hlk _ _ h1; replace h2 := hlk _ _ h2; walk1; intros; exact kt _
  case cons a x y => obtain ⟨rfl, da, v1, v2, t1, t2, h1, h2, -⟩ := hd; replace h1 := hlk _ _ h1; replace h2 := hlk _ _ h2; walk1; intros; exact kt _
  case vec a k l =>
    obtain ⟨rfl, da, x, n, vs, t, h1, h2, -⟩ := hd
    replace h1 := hlk _ _ h1; replace h2 := hlk _ _ h2
    cases k <;> simp only [if_true, if_false, Bool.false_eq_true] at h1 <;> (walk1; intros; exact kt _)
end
end T1X

open PySem PySem.W PySem.Calls PyProof.Rows in
theorem rstT2 {M : Model} {A : Around} {env : Env} {Q : Flow → Shared → Prop} {E : Value → Shared → Prop} {s : Shared} (h : Q Flow.next s) : wpAny M A (execs [] env) Q E s := by
  w_top off
  first | (walk1; exact h) | exact wpAny_execs_nil h
section T2X
open PySem PySem.W PySem.Calls PyProof.Rows
set_option Elab.async false
set_option maxRecDepth 100000
local macro_rules | `(tactic| walk_at "call builtin:isinstance") => `(tactic| ((with_reducible show wpAny _ _ (call (Value.builtin _) [_, _]) _ _ _); (first | refine' isi_sym ?k1 ?k2 ?k3 ?k4 ?_ | refine' isi_cons ?k1 ?k2 ?k3 ?k4 ?_ | refine' isi_text ?k1 ?k2 ?k3 ?k4 ?_ | refine' isi_vec ?k1 ?k2 ?k3 ?k4 ?_ | refine' isi_bc ?k1 ?k2 ?k3 ?k4 ?_ | refine' isi_opaque ?k1 ?k2 ?k3 ?k4 ?_ | refine' isi_int ?k1 ?k2 ?k3 ?k4 ?_); (case k4 => assumption); (case k1 => k_asm); (case k2 => assumption); (case k3 => assumption); intro tk'))
local macro_rules | `(tactic| walk_at "call ref") => `(tactic| (
  (with_reducible show wpAny _ _ (call (Value.ref 203) _) _ _ _);
  refine' is_whole_spec (W := []) ?k1 ?k2 ?h0 ?k4 ?k5 ?_; (case h0 => assumption);
  (case k1 => exact Gd.push0 (by assumption) (by k_asm)); (case k2 => exact lkH (by k_asm) (by assumption)); (case k4 => (try dsimp only); omega); (case k5 => (try dsimp only); omega);
  (intro h' tk' fr'; have F' := after0F (by k_asm) fr'; have N' := after0N (by k_asm) fr'; clear fr'; (try k_sweep); (try dsimp only))))
local macro_rules | `(tactic| walk_at "call ref") => `(tactic| (
  (with_reducible show wpAny _ _ (call (Value.ref 210) _) _ _ _);
  refine' eq_spec (W := []) ?k1 ?k2 ?h0 ?h1 ?k4 ?k5 ?_; (case h0 => assumption); (case h1 => assumption);
  (case k1 => exact Gd.push0 (by assumption) (by k_asm)); (case k2 => exact lkH (by k_asm) (by assumption)); (case k4 => (try dsimp only); omega); (case k5 => (try dsimp only); omega);
  (intro h' tk' fr'; have F' := after0F (by k_asm) fr'; have N' := after0N (by k_asm) fr'; clear fr'; (try k_sweep); (try dsimp only))))
theorem cond_t {α : Type} {c : Bool} {a b : α} (h : c = true) : (bif c then a else b) = a := by rw [h]; rfl
theorem cond_f {α : Type} {c : Bool} {a b : α} (h : c = false) : (bif c then a else b) = b := by rw [h]; rfl
def D.one (d e : D) : Bool := bif d.cls == 85 then e.cls == 85 else bif d.cls == 128 then e.cls == 128 else bif d.cls == 149 then e.cls == 149 else bif d.cls == 107 then e.cls == 107 else bif d.cls == 184 then e.cls == 184 else false
set_option maxHeartbeats 8000000 in
theorem one_class_spec {w : World} {outer : List Env} {W : List Addr} {s : Shared} {dp un : Nat} {gd : Option (List Code)} {lk : Addr → Obj → Prop} {d e : D} {v u : Value}  {Q E : Value → Shared → Prop}
    (G : Gd w W outer s.heap) (hlk : ∀ a o, lk a o → (hideAll s.heap W).get? a = some o) (hd : At w lk d v) (he : At w lk e u) (hdp : dp + 1 < recursionLimit) (hun : un + 20 < cLine)
    (ret : ∀ h' tk', Frame W s.heap h' → Q (.bool (d.one e)) { s with heap := h', toks := tk' }) :
    wpAny (model PySem.Challenge.rw_np0028_01.row.prog w) (Ar dp un gd outer) (call (.ref 222) [v, u]) Q E s := by
  refine wpAny_call ?_
  refine enter (binds := [(Str.ofString "one", v), (Str.ofString "other", u)]) G (by omega) (by k_is) (by k_is) (BindsTo.of_eq rfl) (locs rfl) rfl rfl rfl (by decide) ?_
  intro base p loose mean mg mb h₁ tk₁ F hN B T
  have X := G.X
  have N := hN [] (fun _ hq => nomatch hq)
  clear hN B
  try k_fold
  have ret' : ∀ b h' tk', b = d.one e → Frame W s.heap h' → Q (.bool b) { s with heap := h', toks := tk' } := by rintro _ _ _ rfl hf; exact ret _ _ hf
  k_steps
  all_goals (refine ret' _ _ _ (Eq.symm ?_) (Frame.of_Fr (by assumption)); unfold D.one; (repeat (first | (refine (cond_t ?h).trans ?_; (case h => with_reducible assumption)) | (refine (cond_f ?h).trans ?_; (case h => with_reducible assumption)))); rfl)
set_option maxHeartbeats 8000000 in
theorem are_any_spec {w : World} {outer : List Env} {W : List Addr} {s : Shared} {dp un : Nat} {gd : Option (List Code)} {lk : Addr → Obj → Prop} {d e : D} {v u : Value}  {Q E : Value → Shared → Prop}
    (G : Gd w W outer s.heap) (hlk : ∀ a o, lk a o → (hideAll s.heap W).get? a = some o) (hd : At w lk d v) (he : At w lk e u) (hdp : dp + 1 < recursionLimit) (hun : un + 20 < cLine)
    (ret : ∀ h' tk', Frame W s.heap h' → Q (.bool true) { s with heap := h', toks := tk' }) :
    wpAny (model PySem.Challenge.rw_np0028_01.row.prog w) (Ar dp un gd outer) (call (.ref 236) [v, u]) Q E s := by
  refine wpAny_call ?_
  refine enter (binds := [(Str.ofString "one", v), (Str.ofString "other", u)]) G (by omega) (by k_is) (by k_is) (BindsTo.of_eq rfl) (locs rfl) rfl rfl rfl (by decide) ?_
  intro base p loose mean mg mb h₁ tk₁ F hN B T
  have X := G.X
  have N := hN [] (fun _ hq => nomatch hq)
  clear hN B
  try k_fold
  k_steps
  exact ret _ _ (Frame.of_Fr (by assumption))
end T2X

end Mine
end GrpT1X0

namespace Mine
open PySem PySem.W PySem.Calls PyProof.Rows in
theorem rstCz {M : Model} {A : Around} {env : Env} {Q : Flow → Shared → Prop} {E : Value → Shared → Prop} {s : Shared} (h : Q Flow.next s) : wpAny M A (execs [] env) Q E s := by
  w_top off
  first | (walk1; exact h) | exact wpAny_execs_nil h
end Mine
section CzX
open PySem PySem.W PySem.Calls PyProof.Rows PyProof.Rows.LCg
set_option Elab.async false
set_option maxRecDepth 100000
namespace Mine
abbrev Grow (h h' : Heap) : Prop := ∀ b o, h.get? b = some o → h'.get? b = some o
def Born (h h' : Heap) (nw : List (Addr × Obj)) : Prop := ∀ p ∈ nw, h'.get? p.1 = some p.2 ∧ h.get? p.1 = none
abbrev tests (ifs : List PySem.Expr) (env : Env) : Sem Bool :=
  forIn ifs true fun c r => if r = true then do let ok ← isTrue c env (eval c env); pure (ForInStep.yield ok) else pure (ForInStep.yield r)
section
variable {prog : Program} {w : World} {A : Around} {E : Value → Shared → Prop} {s : Shared}
theorem cz_loop {elt target iter : PySem.Expr} {ifs : List PySem.Expr} {scope : Scope} {pos : Pos} {it acc : Value} {env : Env} {R : Result → Shared → Prop} (I : Nat → Shared → Prop)
    (turn : ∀ n s, I n s → wpAny (model prog w) A (pyNext it) (fun r s₁ => match r with
      | none => R (.ok .next) s₁
      | some v => wpAny (model prog w) A (letOwnedTupleGo target it v) (fun _ s₀ => wpAny (model prog w) A (assign target env v) (fun _ s₂ =>
          wpAny (model prog w) A (tests ifs env) (fun ok s₃ => if ok = true then wpAny (model prog w) A (eval elt env) (fun x s₄ =>
            wpAny (model prog w) A (call (.builtin "list.append") [acc, x]) (fun _ s₅ => ∃ m, m < n ∧ I m s₅) (notedBy (model prog w) A env fun e s' => R (.error e) s') s₄) (notedBy (model prog w) A env fun e s' => R (.error e) s') s₃
            else ∃ m, m < n ∧ I m s₃) (notedBy (model prog w) A env fun e s' => R (.error e) s') s₂)
          (notedBy (model prog w) A env fun e s' => R (.error e) s') s₀) (notedBy (model prog w) A env fun e s' => R (.error e) s') s₁) (notedBy (model prog w) A env fun e s' => R (.error e) s') s)
    (n : Nat) (h : I n s) : codeAny (model prog w) A (.compLoop (.ListComp elt [⟨target, iter, ifs, 0⟩] scope pos) 0 it acc env) R s := by
  refine codeAny_loop rfl I (fun n s hI => ?_) n h
  show wpAny _ A ((compTurn (.ListComp elt [⟨target, iter, ifs, 0⟩] scope pos) 0 it acc env).onRaise (fun x => do noteFrame x env; theTreesLotGoes x)) _ _ s
  refine wpAny_noted ?_
  rw [compTurn_list]
  refine wpAny_bind (wpAny_standAt (wpAny_bind (wpAny_mono (turn n s hI) (fun r s₁ h₁ => ?_) fun _ _ h' => h')))
  cases r with
  | none => exact wpAny_pure h₁
  | some v =>
    refine wpAny_bind (wpAny_mono h₁ (fun _ s₀ h₀ => ?_) fun _ _ h' => h')
    refine wpAny_bind (wpAny_mono h₀ (fun _ s₂ h₂ => ?_) fun _ _ h' => h')
    refine wpAny_bind (wpAny_mono h₂ (fun ok s₃ h₃ => ?_) fun _ _ h' => h')
    cases ok with
    | false => exact wpAny_pure ⟨rfl, h₃⟩
    | true => exact wpAny_bind (wpAny_bind (wpAny_mono h₃ (fun x s₄ h₄ => wpAny_bind (wpAny_mono h₄ (fun _ s₅ h₅ => wpAny_pure (wpAny_pure ⟨rfl, h₅⟩)) fun _ _ h' => h')) fun _ _ h' => h'))
end
abbrev ZSt (z TI TO i1 i2 l1 l2 : Addr) (xs ys : Array Value) (i : Nat) (h : Heap) : Prop :=
  IsZip h z TI TO .none ∧ IsPair h TI (.ref i1) (.ref i2) ∧ (∃ a b, IsPair h TO a b) ∧ h.IsListIter i1 l1 i ∧ h.IsListIter i2 l2 i ∧ h.IsList l1 xs ∧ h.IsList l2 ys

def ZTurn (prog : Program) (w : World) (A : Around) (env : Env) (elt : PySem.Expr) (ifs : List PySem.Expr) (a b : Str) (scope : Scope) (cl : List (Str × Addr)) (s : Shared) (h₀ : Heap) (L : Addr) (m : Str → Option Value) (news : List (Addr × Obj)) (g : Heap) (xs ys : Array Value)
    (Good : Nat → List Value → List (Addr × Obj) → Prop) : Prop :=
  ∀ i x y C oC m₂ h tk rs nw (E' : Value → Shared → Prop), xs[i]? = some x → ys[i]? = some y → NsObj oC m₂ → m₂ a = some x → m₂ b = some y → Grow g h → Fr h₀ L h m → News h₀ L h ((C, oC) :: news) → Good i rs nw →
    wpAny (model prog w) A (tests ifs (compEnvC scope cl C env)) (fun ok s₃ =>
      if ok = true then wpAny (model prog w) A (eval elt (compEnvC scope cl C env)) (fun r s₄ => ∃ h' tk' nw', s₄ = { s with heap := h', toks := tk' } ∧ Grow h h' ∧ Born h h' nw' ∧ Good (i + 1) (rs ++ [r]) (nw ++ nw')) E' s₃
      else ∃ h' tk', s₃ = { s with heap := h', toks := tk' } ∧ Grow h h' ∧ Good (i + 1) rs nw) E' { s with heap := h, toks := tk }
def ZSrc (prog : Program) (w : World) (A : Around) (env : Env) (elt : PySem.Expr) (ifs : List PySem.Expr) (a b : Str) (scope : Scope) (cl : List (Str × Addr)) (Q : Value → Shared → Prop) (xv : Value) (s₁ : Shared) : Prop :=
  ∃ (z TI TO i1 i2 l1 l2 : Addr) (xs ys : Array Value) (g : Heap) (h₀ : Heap) (L : Addr) (m : Str → Option Value) (news : List (Addr × Obj)) (Good : Nat → List Value → List (Addr × Obj) → Prop),
    xv = .ref z ∧ A.handled = none ∧ ZipApart z TI TO i1 i2 l1 l2 ∧ ZSt z TI TO i1 i2 l1 l2 xs ys 0 s₁.heap ∧ Grow g s₁.heap ∧ (∀ c ∈ [z, TI, TO, i1, i2], g.get? c = none) ∧ xs.size ≤ sizeLine ∧
    Fr h₀ L g m ∧ News h₀ L g news ∧ Good 0 [] [] ∧ ZTurn prog w A env elt ifs a b scope cl s₁ h₀ L m news g xs ys Good ∧
    ∀ D h' tk' rs nw, Grow g h' → h'.get? D = some (lst rs) → g.get? D = none → Good (min xs.size ys.size) rs nw → Born g h' nw → Q (.ref D) { s₁ with heap := h', toks := tk' }
section
variable {prog : Program} {w : World} {A : Around} {E : Value → Shared → Prop} {s : Shared}
theorem ZSrc.call {env : Env} {elt : PySem.Expr} {ifs : List PySem.Expr} {a b : Str} {scope : Scope} {cl : List (Str × Addr)} {Q : Value → Shared → Prop} {l1 l2 : Addr} {xs ys : Array Value} {h₀ : Heap} {L : Addr} {m : Str → Option Value} {news : List (Addr × Obj)}
    (Good : Nat → List Value → List (Addr × Obj) → Prop) (hh : A.handled = none) (hl1 : s.heap.IsList l1 xs) (hl2 : s.heap.IsList l2 ys) (hsz : xs.size ≤ sizeLine) (F : Fr h₀ L s.heap m) (N : News h₀ L s.heap news) (h0 : Good 0 [] [])
    (turn : ∀ g, ZTurn prog w A env elt ifs a b scope cl { s with heap := g } h₀ L m news s.heap xs ys Good)
    (fin : ∀ D h' tk' rs nw, Grow s.heap h' → h'.get? D = some (lst rs) → s.heap.get? D = none → Good (min xs.size ys.size) rs nw → Born s.heap h' nw → Q (.ref D) { s with heap := h', toks := tk' }) :
    wpAny (model prog w) A (call (.type "zip") [.ref l1, .ref l2]) (ZSrc prog w A env elt ifs a b scope cl Q) E s := by
  have lt1 : l1 < s.heap.objs.size := by obtain ⟨_, e, _⟩ := hl1; exact Heap.lt_size e
  have lt2 : l2 < s.heap.objs.size := by obtain ⟨_, e, _⟩ := hl2; exact Heap.lt_size e
  refine call_zip_2 hl1 hl2 fun h' hz hTI hTO hi1 hi2 hsz' hk => ?_
  refine ⟨_, _, _, _, _, l1, l2, xs, ys, s.heap, h₀, L, m, news, Good, rfl, hh, ktu_apart _ _ _ lt1 lt2, ⟨hz, hTI, ⟨_, _, hTO⟩, hi1, hi2, hl1.at fun o e => hk _ o e, hl2.at fun o e => hk _ o e⟩, hk, ?_, hsz, F, N, h0, turn h', fin⟩
  intro c hc
  refine Heap.get?_none_of_le ?_
  simp only [List.mem_cons, List.not_mem_nil, or_false] at hc
  rcases hc with rfl | rfl | rfl | rfl | rfl <;> (first | exact Nat.le_add_right _ _ | exact Nat.le_refl _)

theorem comp_zip {elt iter : PySem.Expr} {ifs : List PySem.Expr} {a b : Str} {pa pb tp : Pos} {kk : Nat} {scope : Scope} {cl : List (Str × Addr)} {pos : Pos} {env : Env} {Q : Value → Shared → Prop}
    (hclos : closureFor scope env = pure cl) (hcell : ∀ y ∈ scope.names, y.2 ≠ .cell) (hkind : scope.kind = .function)
    (hnames : ∀ y ∈ scope.names, y.2 = .local → scope.names.lookup y.1 = some .local) (hxa : scope.names.lookup a = some .local) (hxb : scope.names.lookup b = some .local) (hab : ¬ a = b)
    (hs : ∀ x, foldedSetIterable iter env x = pure x)
    (h : wpAny (model prog w) A (eval iter env) (ZSrc prog w A env elt ifs a b scope cl Q) E s) :
    wpAny (model prog w) A (eval (.ListComp elt [⟨.Tuple [.Name a pa, .Name b pb] kk tp, iter, ifs, 0⟩] scope pos) env) Q E s := by
  rw [eval_ListComp]
  refine wpAny_comprehension_free (use := none) rfl hs hclos hkind hnames (wpAny_mono h (fun xv s₁ h₁ => ?_) fun _ _ e => e)
  obtain ⟨z, TI, TO, i1, i2, l1, l2, xs, ys, g, h₀, L, m, news, Good, rfl, hh, DD, hst, hg, hzn, hsz, F, N, G0, turn, fin⟩ := h₁
  refine wpAny_pyIter_zip hst.1 ?_
  refine wpAny_newObj_type (wpAny_newFunctionEnv hcell (by intro y hy; simp at hy) (fun h₁ hns₁ hsb₁ => ?_) hkind)
  dsimp only at hns₁ hsb₁ ⊢
  generalize hH2 : s₁.heap.push { cls := .type "list", dict := none, data := .seq ([] : List Value).toArray } = H2 at hns₁ hsb₁ ⊢
  have hC : H2.objs.size = s₁.heap.objs.size + 1 := by rw [← hH2, Heap.size_push]
  have fresh : ∀ c, s₁.heap.objs.size ≤ c → s₁.heap.get? c = none := fun c hc => Heap.get?_none_of_le hc
  have hDn : s₁.heap.get? s₁.heap.objs.size = none := fresh _ (Nat.le_refl _)
  have hCn : s₁.heap.get? H2.objs.size = none := fresh _ (by rw [hC]; exact Nat.le_succ _)
  have hDC : s₁.heap.objs.size ≠ H2.objs.size := by rw [hC]; exact Nat.ne_of_lt (Nat.lt_succ_self _)
  have ne_of : ∀ {c o d}, s₁.heap.get? c = some o → s₁.heap.get? d = none → c ≠ d := fun e n q => by rw [q, n] at e; cases e
  have old : ∀ b o, s₁.heap.get? b = some o → h₁.get? b = some o := fun b o e => hsb₁.extBut b o (ne_of e hCn) (Heap.get?_push_of_some _ (hH2 ▸ Heap.get?_push_of_some _ e))
  have hacc : h₁.get? s₁.heap.objs.size = some (lst []) := hsb₁.extBut _ _ hDC (Heap.get?_push_of_some _ (hH2 ▸ Heap.get?_push_size _ rfl))
  have W := WalksT.zip2 (prog := prog) (w := w) hh z TI TO i1 i2 l1 l2 DD xs ys
  have hst₁ : ZSt z TI TO i1 i2 l1 l2 xs ys 0 h₁ := W.frame _ _ _ hst fun b _ o e => old b o e
  have in1 : ∀ {i h}, ZSt z TI TO i1 i2 l1 l2 xs ys i h → ∀ c ∈ [z, TI, TO, i1, i2, l1, l2], ∃ o, h.get? c = some o := by
    intro i h q c hc
    obtain ⟨q1, q2, ⟨_, _, q3⟩, ⟨_, q4, _⟩, ⟨_, q5, _⟩, ⟨_, q6, _⟩, ⟨_, q7, _⟩⟩ := q
    simp only [List.mem_cons, List.not_mem_nil, or_false] at hc
    rcases hc with rfl | rfl | rfl | rfl | rfl | rfl | rfl <;> exact ⟨_, by assumption⟩
  have notC : ∀ c ∈ [z, TI, TO, i1, i2, l1, l2], c ≠ H2.objs.size ∧ c ≠ s₁.heap.objs.size := fun c hc => by
    obtain ⟨o, e⟩ := in1 hst c hc
    exact ⟨ne_of e hCn, ne_of e hDn⟩
  have sub : ∀ c ∈ [z, TO, i1, i2], c ∈ [z, TI, TO, i1, i2, l1, l2] := fun c hc => by
    simp only [List.mem_cons, List.not_mem_nil, or_false] at hc ⊢
    rcases hc with h | h | h | h <;> simp [h]
  have sub' : ∀ c ∈ [z, TO, i1, i2], c ∈ [z, TI, TO, i1, i2] := fun c hc => by
    simp only [List.mem_cons, List.not_mem_nil, or_false] at hc ⊢
    rcases hc with h | h | h | h <;> simp [h]
  have gC : g.get? H2.objs.size = none := by cases e : g.get? H2.objs.size with | none => rfl | some o => rw [hg _ _ e] at hCn; cases hCn
  have gD : g.get? s₁.heap.objs.size = none := by cases e : g.get? s₁.heap.objs.size with | none => rfl | some o => rw [hg _ _ e] at hDn; cases hDn
  have gne : ∀ {b o}, g.get? b = some o → b ∉ [z, TO, i1, i2] ∧ b ≠ H2.objs.size ∧ b ≠ s₁.heap.objs.size := fun {b o} e => by
    refine ⟨fun hb => ?_, fun q => ?_, fun q => ?_⟩
    · have := hzn b (sub' b hb)
      rw [e] at this; cases this
    · rw [q, gC] at e; cases e
    · rw [q, gD] at e; cases e
  have FrG : ∀ {h : Heap}, Grow g h → Fr h₀ L h m := fun k => F.keeps k
  have hLC : ∀ {b o}, g.get? b = some o → b ≠ H2.objs.size := fun e => (gne e).2.1
  have hCL : H2.objs.size ≠ L := fun q => by obtain ⟨o, _, _, e, _⟩ := F.ns; exact (gne e).2.1 q.symm
  have hC0 : h₀.get? H2.objs.size = none := by cases e : h₀.get? H2.objs.size with | none => rfl | some o => have := F.keep _ _ e; rw [gC] at this; cases this
  have loop : ∀ s₃ : Shared, s₃ = { s₁ with heap := h₁, toks := s₁.toks + ([] : List (Str × Value)).length } →
      codeAny (model prog w) A (.compLoop (.ListComp elt [⟨.Tuple [.Name a pa, .Name b pb] kk tp, iter, ifs, 0⟩] scope pos) 0 (.ref z) (.ref s₁.heap.objs.size) (compEnvC scope cl H2.objs.size env))
        (compPost (model prog w) A E none Q (.ref s₁.heap.objs.size) H2.objs.size) s₃ := by
    rintro s₃ rfl
    refine cz_loop
      (fun k s' => ∃ h' tk i rs m' nw, s' = { s₁ with heap := h', toks := tk } ∧ i ≤ min xs.size ys.size ∧ k = min xs.size ys.size + 1 - i ∧ rs.length ≤ i ∧ ZSt z TI TO i1 i2 l1 l2 xs ys i h' ∧ h'.Ns H2.objs.size m' ∧ Grow g h' ∧
        h'.get? s₁.heap.objs.size = some (lst rs) ∧ Good i rs nw ∧ Born g h' nw ∧ (∀ p ∈ nw, p.1 ∉ [z, TO, i1, i2] ∧ p.1 ≠ H2.objs.size ∧ p.1 ≠ s₁.heap.objs.size)) ?_ (min xs.size ys.size + 1)
      ⟨h₁, _, 0, [], _, [], rfl, Nat.zero_le _, rfl, Nat.le_refl _, hst₁, hns₁, fun b o e => old b o (hg b o e), hacc, G0, fun p hp => (nomatch hp), fun p hp => (nomatch hp)⟩
    rintro k s' ⟨h', tk, i, rs, m', nw, rfl, hi, rfl, hrl, hst', hn', hg', hD', hG, hB, hoff⟩
    by_cases hlt : i < min xs.size ys.size
    · have hix : i < xs.size := Nat.lt_of_lt_of_le hlt (Nat.min_le_left ..)
      have hiy : i < ys.size := Nat.lt_of_lt_of_le hlt (Nat.min_le_right ..)
      refine W.item i _ _ _ hlt hst' fun T vals h₂ tk₂ hPv hTlt hT hMd hk₂ => ?_
      obtain ⟨x, y, hx, hy, rfl⟩ := hPv
      refine W.go _ kk tp i T _ _ _ hMd fun h₃ hst₃ hk₃ => ?_
      have hT₃ : h₃.IsTuple T #[x, y] := hT.at fun o e => hk₃ T o (W.apart i T _ hMd) e
      have up₃ : ∀ c o, c ∉ [z, TO, i1, i2] → h'.get? c = some o → h₃.get? c = some o := fun c o hc e => hk₃ c o hc (hk₂ c o hc e)
      have hCw : H2.objs.size ∉ [z, TO, i1, i2] := fun q => (notC _ (sub _ q)).1 rfl
      have hDw : s₁.heap.objs.size ∉ [z, TO, i1, i2] := fun q => (notC _ (sub _ q)).2 rfl
      refine kcp_assign (env := compEnvC scope cl H2.objs.size env) hh hT₃ (lookup_relabel_local hxa) (lookup_relabel_local hxb) (by simp [compEnvC, relabel, hkind]) (hn'.at' fun o e => up₃ _ o hCw e) fun h₄ tk₄ hn₄ hs₄ => ?_
      have up₄ : ∀ c o, c ∉ [z, TO, i1, i2] → c ≠ H2.objs.size → h'.get? c = some o → h₄.get? c = some o := fun c o h1 h2 e => hs₄ c o h2 (up₃ c o h1 e)
      have hst₄ : ZSt z TI TO i1 i2 l1 l2 xs ys (i + 1) h₄ := W.frame _ _ _ hst₃ fun b hb o e => hs₄ b o (notC b hb).1 e
      obtain ⟨oC, heC, hoC⟩ := ns_obj hn₄
      have hg₄ : Grow g h₄ := fun b o e => up₄ b o (gne e).1 (gne e).2.1 (hg' b o e)
      have hD₄ : h₄.get? s₁.heap.objs.size = some (lst rs) := up₄ _ _ hDw hDC hD'
      have hB₄ : ∀ p ∈ nw, h₄.get? p.1 = some p.2 := fun p hp => up₄ _ _ (hoff p hp).1 (hoff p hp).2.1 (hB p hp).1
      have N₄ : News h₀ L h₄ ((H2.objs.size, oC) :: news) := fun p hp => by
        rcases List.mem_cons.mp hp with rfl | hp
        · exact ⟨heC, hCL, hC0⟩
        · exact ⟨hg₄ _ _ (N p hp).1, (N p hp).2⟩
      have fin' : ∀ (rs' : List Value) (nw' : List (Addr × Obj)) (h₅ : Heap) (tk₅ : Nat), rs'.length ≤ i + 1 → Grow g h₅ → ZSt z TI TO i1 i2 l1 l2 xs ys (i + 1) h₅ → h₅.get? H2.objs.size = some oC → h₅.get? s₁.heap.objs.size = some (lst rs') → Good (i + 1) rs' nw' → Born g h₅ nw' →
          (∀ p ∈ nw', p.1 ∉ [z, TO, i1, i2] ∧ p.1 ≠ H2.objs.size ∧ p.1 ≠ s₁.heap.objs.size) →
          ∃ q', q' < min xs.size ys.size + 1 - i ∧ (∃ h' tk i rs m' nw, ({ s₁ with heap := h₅, toks := tk₅ } : Shared) = { s₁ with heap := h', toks := tk } ∧ i ≤ min xs.size ys.size ∧ q' = min xs.size ys.size + 1 - i ∧ rs.length ≤ i ∧ ZSt z TI TO i1 i2 l1 l2 xs ys i h' ∧ h'.Ns H2.objs.size m' ∧ Grow g h' ∧
        h'.get? s₁.heap.objs.size = some (lst rs) ∧ Good i rs nw ∧ Born g h' nw ∧ (∀ p ∈ nw, p.1 ∉ [z, TO, i1, i2] ∧ p.1 ≠ H2.objs.size ∧ p.1 ≠ s₁.heap.objs.size)) :=
        fun rs' nw' h₅ tk₅ a1 a2 a3 a4 a5 a6 a7 a8 => ⟨min xs.size ys.size + 1 - (i + 1), by omega, h₅, tk₅, i + 1, rs', _, nw', rfl, hlt, rfl, a1, a3, hoC.ns a4, a2, a5, a6, a7, a8⟩
      refine wpAny_mono (turn i x y H2.objs.size oC _ h₄ _ rs nw _ hx hy hoC (by simp [hab]) (by simp) hg₄ (FrG hg₄) N₄ hG) (fun ok s₅ h₅ => ?_) fun _ _ e => e
      cases ok with
      | false =>
        simp only [Bool.false_eq_true, if_false] at h₅ ⊢
        obtain ⟨h₅, tk₅, rfl, k₅, G₅⟩ := h₅
        exact fin' rs nw h₅ tk₅ (Nat.le_succ_of_le hrl) (fun b o e => k₅ b o (hg₄ b o e)) (W.frame _ _ _ hst₄ fun b _ o e => k₅ b o e) (k₅ _ _ heC) (k₅ _ _ hD₄) G₅ (fun p hp => ⟨k₅ _ _ (hB₄ p hp), (hB p hp).2⟩) hoff
      | true =>
        simp only [if_true] at h₅ ⊢
        refine wpAny_mono h₅ (fun y s₆ h₆ => ?_) fun _ _ e => e
        obtain ⟨h₅, tk₅, nw', rfl, k₅, B₅, G₅⟩ := h₆
        have zD := k₅ _ _ hD₄
        have ni : ∀ p ∈ nw', ∀ c o, h₄.get? c = some o → p.1 ≠ c := fun p hp c o e q => by rw [← q, (B₅ p hp).2] at e; cases e
        have off' : ∀ p ∈ nw', p.1 ∉ [z, TO, i1, i2] ∧ p.1 ≠ H2.objs.size ∧ p.1 ≠ s₁.heap.objs.size := fun p hp =>
          ⟨fun q => by obtain ⟨o, e⟩ := in1 hst₄ _ (sub _ q); exact ni p hp _ o e rfl, ni p hp _ _ heC, ni p hp _ _ hD₄⟩
        refine append_at (hsz := by show rs.toArray.size ≤ sizeLine; rw [List.size_toArray]; omega) zD fun h₆ hs₆ hD₆ => ?_
        refine fin' (rs ++ [y]) (nw ++ nw') h₆ _ (by rw [List.length_append, List.length_singleton]; omega) (fun b o e => hs₆.extBut b o (gne e).2.2 (k₅ b o (hg₄ b o e)))
          (W.frame _ _ _ hst₄ fun b hb o e => hs₆.extBut b o (notC b hb).2 (k₅ b o e)) (hs₆.extBut _ _ (Ne.symm hDC) (k₅ _ _ heC)) (hD₆.trans (congrArg some (lst_snoc rs y))) G₅ (fun p hp => ?_) (fun p hp => ?_)
        · rcases List.mem_append.mp hp with hp | hp
          · exact ⟨hs₆.extBut _ _ (hoff p hp).2.2 (k₅ _ _ (hB₄ p hp)), (hB p hp).2⟩
          · refine ⟨hs₆.extBut _ _ (off' p hp).2.2 (B₅ p hp).1, ?_⟩
            cases e : g.get? p.1 with
            | none => rfl
            | some o => exact absurd rfl (ni p hp _ o (hg₄ _ _ e))
        · rcases List.mem_append.mp hp with hp | hp
          · exact hoff p hp
          · exact off' p hp
    · have hin : i = min xs.size ys.size := by omega
      subst hin
      refine W.done _ _ _ hst' fun h₂ tk₂ hk₂ => ?_
      have hCw : H2.objs.size ∉ [z, TO, i1, i2] := fun q => (notC _ (sub _ q)).1 rfl
      have hDw : s₁.heap.objs.size ∉ [z, TO, i1, i2] := fun q => (notC _ (sub _ q)).2 rfl
      refine ⟨m', hn'.at' fun o e => hk₂ _ o hCw e, fun h'' hs'' => ?_⟩
      refine fin _ h'' tk₂ rs nw (fun b o e => hs''.extBut b o (gne e).2.1 (hk₂ b o (gne e).1 (hg' b o e))) (hs''.extBut _ _ hDC (hk₂ _ _ hDw hD')) gD hG (fun p hp => ⟨hs''.extBut _ _ (hoff p hp).2.1 (hk₂ _ _ (hoff p hp).1 (hB p hp).1), (hB p hp).2⟩)
  exact codeAny_compStart_list (loop _ rfl) (wpAny_pyIter_zip hst₁.1 (loop _ rfl))
end
end Mine
end CzX

section GrpT3X0
open PySem PySem.W PySem.Calls PyProof.Rows
set_option Elab.async false
set_option maxRecDepth 100000
namespace Mine
local macro_rules | `(tactic| k_inst) => `(tactic| exact inst_g (by k_asm) (by k_asm) (by k_asm))
open PySem PySem.W PySem.Calls PyProof.Rows in
theorem rstT3 {M : Model} {A : Around} {env : Env} {Q : Flow → Shared → Prop} {E : Value → Shared → Prop} {s : Shared} (h : Q Flow.next s) : wpAny M A (execs [] env) Q E s := by
  w_top off
  first | (walk1; exact h) | exact wpAny_execs_nil h
section T3X
open PySem PySem.W PySem.Calls PyProof.Rows
set_option Elab.async false
set_option maxRecDepth 100000
theorem At.handed {w : World} {lk : Addr → Obj → Prop} {d : D} {v : Value} (h : At w lk d v) : handedIn v = true := by
  cases d <;> simp only [At] at h
  case int => obtain ⟨t, rfl⟩ := h; rfl
  all_goals (rw [h.1]; rfl)
theorem len_g {prog : Program} {w : World} {A : Around} {E : Value → Shared → Prop} {s : Shared} {g : Heap} {L : Addr} {m : Str → Option Value} {x : Addr} {vs : List Value} {n : Nat} {Q : Value → Shared → Prop} (F : Fr g L s.heap m) (h1 : g.get? x = some (listOf vs.toArray n)) (hf : vs.length < 1000000)
    (h : ∀ tk tk', Q (.int (vs.length : Nat) tk) { s with toks := tk' }) : wpAny (model prog w) A (call (.builtin "len") [.ref x]) Q E s :=
  call_len_list ⟨_, F.keep _ _ h1, rfl, n, rfl⟩ (by rw [List.size_toArray]; omega) (h _ _)
local macro_rules | `(tactic| k_handed) => `(tactic| assumption)
local macro_rules | `(tactic| units_room) => `(tactic| ((try dsimp only); first | exact room1 (by assumption) rfl | exact room0 (by assumption) rfl | exact roomZ (by assumption) | exact room2 (by assumption) rfl | omega))
local macro_rules | `(tactic| walk_at "call builtin:len") => `(tactic| ((with_reducible show wpAny _ _ (call (Value.builtin "len") [Value.ref _]) _ _ _); refine' len_g ?k1 ?k2 ?k3 ?_; (case k2 => assumption); (case k1 => k_asm); (case k3 => omega); intro tk' tk''))
def DL.zip : DL → DL → List (D × D)
  | .cons d l, .cons e r => (d, e) :: l.zip r
  | _, _ => []
def parts : D → D → Option (List (D × D))
  | .cons _ x y, .cons _ x' y' => some [(y, y'), (x, x')]
  | .vec _ _ l, .vec _ _ r => if l.len = r.len then some (l.zip r).reverse else none
  | .text _ cs _, .text _ cs' _ => if cs = cs' then some [] else none
  | _, _ => none
def Prs (w : World) (lk look : Addr → Obj → Prop) : List (D × D) → List Value → Prop
  | [], vs => vs = []
  | (d, e) :: r, vs => ∃ t n v u vs', vs = .ref t :: vs' ∧ look t (tupO [v, u] n) ∧ At w lk d v ∧ At w lk e u ∧ Prs w lk look r vs'
theorem Prs.snoc {w : World} {lk look : Addr → Obj → Prop} {d e : D} {t : Addr} {n : Nat} {v u : Value} (h1 : look t (tupO [v, u] n)) (h2 : At w lk d v) (h3 : At w lk e u) : ∀ {ps : List (D × D)} {vs : List Value}, Prs w lk look ps vs → Prs w lk look (ps ++ [(d, e)]) (vs ++ [.ref t])
  | [], vs, h => by simp only [Prs] at h; subst h; exact ⟨t, n, v, u, [], rfl, h1, h2, h3, rfl⟩
  | _ :: _, vs, h => by obtain ⟨t, n, v, u, vs', rfl, a, b, c, r⟩ := h; exact ⟨t, n, v, u, _, rfl, a, b, c, r.snoc h1 h2 h3⟩
theorem Prs.mono {w : World} {lk look look' : Addr → Obj → Prop} (hl : ∀ a o, look a o → look' a o) : ∀ {ps : List (D × D)} {vs : List Value}, Prs w lk look ps vs → Prs w lk look' ps vs
  | [], vs, h => h
  | _ :: _, vs, h => by obtain ⟨t, n, v, u, vs', rfl, a, b, c, r⟩ := h; exact ⟨t, n, v, u, _, rfl, hl _ _ a, b, c, r.mono hl⟩
theorem zip_get {w : World} {lk : Addr → Obj → Prop} {x y : Value} : ∀ {l l' : DL} {vs us : List Value} {i : Nat}, Ats w lk l vs → Ats w lk l' us → vs[i]? = some x → us[i]? = some y → ∃ d e, (l.zip l')[i]? = some (d, e) ∧ At w lk d x ∧ At w lk e y
  | .nil, _, vs, _, i, h, _, e, _ => by simp only [Ats] at h; subst h; simp at e
  | .cons _ _, .nil, _, us, i, _, h, _, e => by simp only [Ats] at h; subst h; simp at e
  | .cons d l, .cons d' l', vs, us, 0, h, h', e, e' => by
    simp only [Ats] at h h'
    obtain ⟨v, r, rfl, a, b⟩ := h
    obtain ⟨v', r', rfl, a', b'⟩ := h'
    simp at e e'
    subst e e'
    exact ⟨d, d', rfl, a, a'⟩
  | .cons d l, .cons d' l', vs, us, i + 1, h, h', e, e' => by
    simp only [Ats] at h h'
    obtain ⟨v, r, rfl, a, b⟩ := h
    obtain ⟨v', r', rfl, a', b'⟩ := h'
    simp at e e'
    obtain ⟨d₁, e₁, z, q⟩ := zip_get b b' e e'
    exact ⟨d₁, e₁, by simpa [DL.zip] using z, q⟩
theorem zip_len : ∀ {l l' : DL}, l.len = l'.len → (l.zip l').length = l.len
  | .nil, _, _ => by simp [DL.zip, DL.len]
  | .cons _ _, .nil, h => by simp [DL.len] at h
  | .cons _ l, .cons _ l', h => by simp [DL.len] at h; simp [DL.zip, DL.len, zip_len h]
theorem one_forms {d e : D} (h : d.one e = true) : (∃ a x y b x' y', d = .cons a x y ∧ e = .cons b x' y') ∨ (∃ a k l b l', d = .vec a k l ∧ e = .vec b k l') ∨ (∃ a cs sp b cs' sp', d = .text a cs sp ∧ e = .text b cs' sp') := by
  cases d with
  | int i => simp [D.one, D.cls] at h
  | sym a => simp [D.one, D.cls] at h
  | text a cs sp =>
    cases e with
    | text b cs' sp' => exact .inr (.inr ⟨_, _, _, _, _, _, rfl, rfl⟩)
    | vec b k l => cases k <;> simp [D.one, D.cls] at h
    | _ => simp [D.one, D.cls] at h
  | cons a x y =>
    cases e with
    | cons b x' y' => exact .inl ⟨_, _, _, _, _, _, rfl, rfl⟩
    | vec b k l => cases k <;> simp [D.one, D.cls] at h
    | _ => simp [D.one, D.cls] at h
  | vec a k l =>
    cases e with
    | vec b k' l' => cases k <;> cases k' <;> first | exact .inr (.inl ⟨_, _, _, _, _, rfl, rfl⟩) | simp [D.one, D.cls] at h
    | _ => cases k <;> simp [D.one, D.cls] at h
theorem Ats.len {w : World} {lk : Addr → Obj → Prop} : ∀ {l : DL} {vs : List Value}, Ats w lk l vs → vs.length = l.len
  | .nil, _, h => by simp only [Ats] at h; subst h; rfl
  | .cons _ _, _, h => by simp only [Ats] at h; obtain ⟨v, r, rfl, _, b⟩ := h; simp [DL.len, b.len]
theorem zip_rev {w : World} {lk : Addr → Obj → Prop} {x y : Value} {l l' : DL} {vs us : List Value} {i : Nat} (h : Ats w lk l vs) (h' : Ats w lk l' us) (hl : l.len = l'.len) (e : vs.reverse[i]? = some x) (e' : us.reverse[i]? = some y) : ∃ d e, (l.zip l').reverse[i]? = some (d, e) ∧ At w lk d x ∧ At w lk e y := by
  have a := h.len
  have b := h'.len
  have c := zip_len hl
  have i1 : i < vs.length := by
    have := (List.getElem?_eq_some_iff.mp e).1
    simpa using this
  rw [List.getElem?_reverse i1] at e
  rw [List.getElem?_reverse (by omega)] at e'
  rw [List.getElem?_reverse (by omega)]
  have q : us.length = vs.length := by omega
  rw [q] at e'
  have q' : (l.zip l').length = vs.length := by omega
  rw [q']
  exact zip_get h h' e e'
theorem take_snoc {α : Type} {l : List α} {i : Nat} {a : α} (h : l[i]? = some a) : l.take (i + 1) = l.take i ++ [a] := by
  rw [List.take_add_one, h]; rfl
theorem hide0 {h : Heap} {a : Addr} (e : (hideAll h []).get? a = none) : h.get? a = none := by
  cases q : h.get? a with
  | none => rfl
  | some o => rw [hideAll_get [] q (fun h => nomatch h)] at e; cases e
theorem born_of {h h' : Heap} {L : Addr} {nw l : List (Addr × Obj)} (N : News (hideAll h []) L h' l) (sub : ∀ p ∈ nw, p ∈ l) : Born h h' nw := fun p hp => ⟨(N p (sub p hp)).1, hide0 (N p (sub p hp)).2.2⟩
theorem news_none {h h' : Heap} {L a : Addr} {o : Obj} {l : List (Addr × Obj)} (N : News (hideAll h []) L h' l) (hm : (a, o) ∈ l) : h.get? a = none := hide0 (N (a, o) hm).2.2
theorem up_none {h h' : Heap} {L a : Addr} {m : Str → Option Value} (F : Fr (hideAll h []) L h' m) (e : h'.get? a = none) : h.get? a = none := by
  cases q : h.get? a with
  | none => rfl
  | some o => rw [F.keep _ _ (hideAll_get [] q (fun h => nomatch h))] at e; cases e
theorem len_fits {vs : List Value} {n : Nat} (e : vs.length = n) (h : n ≤ 3) : vs.toArray.size ≤ sizeLine := by rw [List.size_toArray]; have : 3 ≤ sizeLine := by decide
                                                                                                                omega
local macro_rules | `(tactic| walk_at "subscriptTail Name Slice ref ref") => `(tactic| (k_here; (with_reducible show wpAny _ _ (subscriptTail _ (PySem.Expr.Slice none none (some _) _) (Value.ref _) (Value.ref _)) _ _ _); k_dflt (refine' krv_lit ?F ?N ?l ?k rfl ?_ ?s ?t ?z; (case F => k_asm); (case N => k_asm); (case l => exact ⟨_, Fr.keep (by k_asm) _ _ (by assumption), rfl, _, rfl⟩); (case k => exact IsPart.int _ _); (case s => with_unfolding_all rfl); (case t => kmk_pure); (case z => assumption)); intro D' h' F' N' l1; (try k_lt l1); (try k_sweep)))
set_option maxHeartbeats 8000000 in
theorem parts_spec {w : World} {outer : List Env} {s : Shared} {dp un : Nat} {gd : Option (List Code)} {lk : Addr → Obj → Prop} {d e : D} {v u : Value} {Q E : Value → Shared → Prop}
    (G : Gd w [] outer s.heap) (hlk : ∀ a o, lk a o → (hideAll s.heap []).get? a = some o) (hd : At w lk d v) (he : At w lk e u) (ho : d.one e = true) (hdp : dp + 2 < recursionLimit) (hun : un + 100 < cLine)
    (retN : ∀ h' tk', parts d e = none → Frame [] s.heap h' → Q .none { s with heap := h', toks := tk' })
    (retL : ∀ ps r n vs (imm : List (Addr × Obj)) h' tk', parts d e = some ps → Frame [] s.heap h' → h'.get? r = some (listOf (List.toArray vs) n) → s.heap.get? r = none → Prs w lk (fun a o => (a, o) ∈ imm) ps vs →
      Born s.heap h' imm → Q (.ref r) { s with heap := h', toks := tk' }) :
    wpAny (model PySem.Challenge.rw_np0028_01.row.prog w) (Ar dp un gd outer) (call (.ref 215) [v, u]) Q E s := by
  refine wpAny_call ?_
  refine enter (binds := [(Str.ofString "one", v), (Str.ofString "other", u)]) G (by omega) (by k_is) (by k_is) (BindsTo.of_eq rfl) (locs rfl) rfl rfl rfl (by decide) ?_
  intro base p loose mean mg mb h₁ tk₁ F hN B T
  have X := G.X
  have N := hN [] (fun _ hq => nomatch hq)
  clear hN B
  try k_fold
  rcases one_forms ho with ⟨a, x, y, b, x', y', rfl, rfl⟩ | ⟨a, k, l, b, l', rfl, rfl⟩ | ⟨a, cs, sp, b, cs', sp', rfl, rfl⟩
  · simp only [At] at hd he
    obtain ⟨rfl, da, v1, v2, t1, t2, h1, h2, k1, k2⟩ := hd
    obtain ⟨rfl, db, u1, u2, t3, t4, g1, g2, j1, j2⟩ := he
    replace h1 := hlk _ _ h1; replace h2 := hlk _ _ h2; replace g1 := hlk _ _ g1; replace g2 := hlk _ _ g2
    have q1 := k1.handed; have q2 := k2.handed; have q3 := j1.handed; have q4 := j2.handed
    k_steps
    refine retL [(y, y'), (x, x')] _ _ [_, _] [_, _] _ _ rfl (Frame.of_Fr (by assumption)) (News.get (by k_asm) (by k_mem)) (news_none (by k_asm) (by k_mem)) ?_ (born_of (by k_asm) (fun p hp => List.mem_cons_of_mem _ hp))
    exact ⟨_, 0, _, _, _, rfl, List.mem_cons_of_mem _ List.mem_cons_self, k2, j2, _, 0, _, _, _, rfl, List.mem_cons_self, k1, j1, rfl⟩
  · simp only [At] at hd he
    obtain ⟨rfl, da, x, n, vs, t, h1, h2, h3, k1, z1⟩ := hd
    obtain ⟨rfl, db, y, n', us, t', g1, g2, g3, j1, z2⟩ := he
    replace h1 := hlk _ _ h1; replace h2 := hlk _ _ h2; replace g1 := hlk _ _ g1; replace g2 := hlk _ _ g2; replace h3 := hlk _ _ h3; replace g3 := hlk _ _ g3
    have l1 : (hideAll s.heap []).IsList x vs.toArray := ⟨_, h3, rfl, n, rfl⟩
    have l2 : (hideAll s.heap []).IsList y us.toArray := ⟨_, g3, rfl, n', rfl⟩
    have e1 := k1.len
    have e2 := j1.len
    have f1 := len_fits e1 z1
    have f2 := len_fits e2 z2
    cases k
    · simp only [Bool.false_eq_true, if_false] at h1 g1
      repeat' (first | (k_unfold; (try dsimp only)) | ((fail_if_success (with_reducible show wpAny _ _ (compareOp CmpOp.NotEq (Value.int _ _) (Value.int _ _)) _ _ _)); walk1) | ((fail_if_success (with_reducible show wpAny _ _ (compareOp CmpOp.NotEq (Value.int _ _) (Value.int _ _)) _ _ _)); dsimp only; walk1))
      walk1
      walk1
      by_cases hl : l.len = l'.len
      case neg =>
        rw [if_pos (by simp [e1, e2]; omega)]
        k_steps
        exact retN _ _ (if_neg hl) (Frame.of_Fr (by assumption))
      case pos =>
        rw [if_neg (by simp [e1, e2, hl])]
        walk1
        walk1
        walk1
        k_dflt (refine comp_zip (by with_unfolding_all rfl) (by decide) (by rfl) (by decide) (by rfl) (by rfl) (by decide) (by intro _; with_unfolding_all rfl) ?_)
        repeat' (first | (k_unfold; (try dsimp only)) | ((fail_if_success (with_reducible show wpAny _ _ (call (Value.type "zip") _) _ _ _)); walk1) | ((fail_if_success (with_reducible show wpAny _ _ (call (Value.type "zip") _) _ _ _)); dsimp only; walk1))
        refine ZSrc.call (fun i rs nw => Prs w lk (fun a o => (a, o) ∈ nw) (((l.zip l').reverse).take i) rs) rfl (News.isList (by k_asm) (by k_mem)) (News.isList (by k_asm) (by k_mem)) ?_ (by k_asm) (by k_asm) (by simp [Prs]) ?_ ?_
        · rw [List.size_toArray, List.length_reverse] at *; exact f1
        · intro g i x y C oC m₂ h tk rs nw E' hx hy hC hma hmb hg F N hG
          refine wpAny_tests_nil ?_
          simp only [if_true]
          simp only [List.getElem?_toArray] at hx hy
          obtain ⟨d₁, e₁, z, q1, q2⟩ := zip_rev k1 j1 hl hx hy
          have r1 := q1.handed
          have r2 := q2.handed
          iterate 5 walk1
          walk1
          refine wpAny_newTuple ?_
          refine ⟨_, _, [(h.objs.size, tupO [x, y] 0)], rfl, fun b o e => Heap.get?_push_of_some _ e, ?_, ?_⟩
          · intro p hp
            rw [List.mem_singleton] at hp; subst hp
            exact ⟨Heap.get?_push_size _ rfl, Heap.get?_none_of_le (Nat.le_refl _)⟩
          · rw [take_snoc z]
            exact Prs.snoc (n := 0) (List.mem_append_right _ List.mem_cons_self) q1 q2 (hG.mono fun a o q => List.mem_append_left _ q)
        · intro D h' tk' rs nw hg hD hDn hG hB
          have c0 := zip_len hl
          rw [List.take_of_length_le (by simp only [List.length_reverse, List.size_toArray]; omega)] at hG
          refine retL _ _ _ _ nw _ _ (if_pos hl) (fun b o _ e => hg _ _ (Fr.keep (by k_asm) _ _ (hideAll_get [] e (fun h => nomatch h)))) hD (up_none (by k_asm) hDn) hG (fun p hp => ⟨(hB p hp).1, up_none (by k_asm) (hB p hp).2⟩)
    · simp only [if_true] at h1 g1
      repeat' (first | (k_unfold; (try dsimp only)) | ((fail_if_success (with_reducible show wpAny _ _ (compareOp CmpOp.NotEq (Value.int _ _) (Value.int _ _)) _ _ _)); walk1) | ((fail_if_success (with_reducible show wpAny _ _ (compareOp CmpOp.NotEq (Value.int _ _) (Value.int _ _)) _ _ _)); dsimp only; walk1))
      walk1
      walk1
      by_cases hl : l.len = l'.len
      case neg =>
        rw [if_pos (by simp [e1, e2]; omega)]
        k_steps
        exact retN _ _ (if_neg hl) (Frame.of_Fr (by assumption))
      case pos =>
        rw [if_neg (by simp [e1, e2, hl])]
        walk1
        walk1
        walk1
        k_dflt (refine comp_zip (by with_unfolding_all rfl) (by decide) (by rfl) (by decide) (by rfl) (by rfl) (by decide) (by intro _; with_unfolding_all rfl) ?_)
        repeat' (first | (k_unfold; (try dsimp only)) | ((fail_if_success (with_reducible show wpAny _ _ (call (Value.type "zip") _) _ _ _)); walk1) | ((fail_if_success (with_reducible show wpAny _ _ (call (Value.type "zip") _) _ _ _)); dsimp only; walk1))
        refine ZSrc.call (fun i rs nw => Prs w lk (fun a o => (a, o) ∈ nw) (((l.zip l').reverse).take i) rs) rfl (News.isList (by k_asm) (by k_mem)) (News.isList (by k_asm) (by k_mem)) ?_ (by k_asm) (by k_asm) (by simp [Prs]) ?_ ?_
        · rw [List.size_toArray, List.length_reverse] at *; exact f1
        · intro g i x y C oC m₂ h tk rs nw E' hx hy hC hma hmb hg F N hG
          refine wpAny_tests_nil ?_
          simp only [if_true]
          simp only [List.getElem?_toArray] at hx hy
          obtain ⟨d₁, e₁, z, q1, q2⟩ := zip_rev k1 j1 hl hx hy
          have r1 := q1.handed
          have r2 := q2.handed
          iterate 5 walk1
          walk1
          refine wpAny_newTuple ?_
          refine ⟨_, _, [(h.objs.size, tupO [x, y] 0)], rfl, fun b o e => Heap.get?_push_of_some _ e, ?_, ?_⟩
          · intro p hp
            rw [List.mem_singleton] at hp; subst hp
            exact ⟨Heap.get?_push_size _ rfl, Heap.get?_none_of_le (Nat.le_refl _)⟩
          · rw [take_snoc z]
            exact Prs.snoc (n := 0) (List.mem_append_right _ List.mem_cons_self) q1 q2 (hG.mono fun a o q => List.mem_append_left _ q)
        · intro D h' tk' rs nw hg hD hDn hG hB
          have c0 := zip_len hl
          rw [List.take_of_length_le (by simp only [List.length_reverse, List.size_toArray]; omega)] at hG
          refine retL _ _ _ _ nw _ _ (if_pos hl) (fun b o _ e => hg _ _ (Fr.keep (by k_asm) _ _ (hideAll_get [] e (fun h => nomatch h)))) hD (up_none (by k_asm) hDn) hG (fun p hp => ⟨(hB p hp).1, up_none (by k_asm) (hB p hp).2⟩)
  · simp only [At] at hd he
    obtain ⟨rfl, da, c, n, vs, t1, t2, sv, h1, h2, h3, i1, z1, _⟩ := hd
    obtain ⟨rfl, db, c', n', us, t3, t4, su, g1, g2, g3, i2, z2, _⟩ := he
    replace h1 := hlk _ _ h1; replace h2 := hlk _ _ h2; replace g1 := hlk _ _ g1; replace g2 := hlk _ _ g2; replace h3 := hlk _ _ h3; replace g3 := hlk _ _ g3
    have l1 : (hideAll s.heap []).IsList c vs.toArray := ⟨_, h3, rfl, n, rfl⟩
    have l2 : (hideAll s.heap []).IsList c' us.toArray := ⟨_, g3, rfl, n', rfl⟩
    k_steps
    · rename_i hcc _ _ _ _ _
      refine retL [] _ _ [] [] _ _ (if_pos hcc) (Frame.of_Fr (by assumption)) (News.get (by k_asm) (by k_mem)) (news_none (by k_asm) (by k_mem)) rfl (fun p hp => (nomatch hp))
    · rename_i hcc
      exact retN _ _ (if_neg hcc) (Frame.of_Fr (by assumption))
end T3X

open PySem PySem.W PySem.Calls PyProof.Rows in
theorem rstPl {M : Model} {A : Around} {env : Env} {Q : Flow → Shared → Prop} {E : Value → Shared → Prop} {s : Shared} (h : Q Flow.next s) : wpAny M A (execs [] env) Q E s := by
  w_top off
  first | (walk1; exact h) | exact wpAny_execs_nil h
section PlX
open PySem PySem.W PySem.Calls PyProof.Rows
set_option Elab.async false
mutual
def eqv (sa : D → D → Bool) : D → D → Bool
  | .int i, .int j => i == j
  | .sym a, e => (D.sym a).same e
  | .cons a x y, .cons b x' y' => a == b || (eqv sa x x' && eqv sa y y')
  | .text a cs sp, .text b cs' sp' => a == b || (decide (cs = cs') && sa (.text a cs sp) (.text b cs' sp'))
  | .vec a k l, .vec b k' r => a == b || (k == k' && (decide (l.len = r.len) && eqvs sa l r))
  | d, e => d.same e
def eqvs (sa : D → D → Bool) : DL → DL → Bool
  | .cons d l, .cons e r => eqv sa d e && eqvs sa l r
  | .nil, .nil => true
  | _, _ => false
end
mutual
def D.size : D → Nat
  | .cons _ x y => x.size + y.size + 1
  | .vec _ _ l => l.size + 1
  | _ => 1
def DL.size : DL → Nat
  | .nil => 0
  | .cons d l => d.size + l.size
end
theorem D.size_pos : ∀ d : D, 0 < d.size
  | .int _ => by simp [D.size]
  | .sym _ => by simp [D.size]
  | .text _ _ _ => by simp [D.size]
  | .cons _ _ _ => by simp [D.size]
  | .vec _ _ _ => by simp [D.size]
def sizes : List (D × D) → Nat
  | [] => 0
  | p :: r => p.1.size + sizes r
theorem sizes_append : ∀ (a b : List (D × D)), sizes (a ++ b) = sizes a + sizes b
  | [], b => by simp [sizes]
  | p :: r, b => by simp [sizes, sizes_append r b]; omega
theorem sizes_reverse : ∀ (a : List (D × D)), sizes a.reverse = sizes a
  | [] => rfl
  | p :: r => by simp [sizes, sizes_append, sizes_reverse r]; omega
theorem sizes_zip : ∀ (l r : DL), sizes (l.zip r) ≤ l.size
  | .nil, _ => by simp [DL.zip, sizes]
  | .cons _ _, .nil => by simp [DL.zip, sizes]
  | .cons d l, .cons e r => by simp [DL.zip, sizes, DL.size]; exact sizes_zip l r
abbrev allE (sa : D → D → Bool) (ps : List (D × D)) : Bool := ps.all fun p => eqv sa p.1 p.2
theorem eqvs_zip {sa : D → D → Bool} : ∀ {l r : DL}, l.len = r.len → eqvs sa l r = allE sa (l.zip r)
  | .nil, .nil, _ => by simp [eqvs, DL.zip, allE]
  | .nil, .cons _ _, h => by simp [DL.len] at h
  | .cons _ _, .nil, h => by simp [DL.len] at h
  | .cons d l, .cons e r, h => by
    simp only [DL.len, Nat.add_right_cancel_iff] at h
    simp [eqvs, DL.zip, allE, eqvs_zip h]
theorem parts_size {d e : D} {ps : List (D × D)} (h : parts d e = some ps) : sizes ps + 1 ≤ d.size := by
  cases d <;> cases e <;> simp only [parts, reduceCtorEq, Option.some.injEq] at h
  case cons.cons => subst h; simp [sizes, D.size]; omega
  case text.text => split at h <;> simp at h; subst h; simp [sizes, D.size]
  case vec.vec a k l b k' r =>
    split at h
    case isFalse => simp at h
    case isTrue => simp only [Option.some.injEq] at h; subst h; rw [sizes_reverse]; have := sizes_zip l r; simp only [D.size]; omega
theorem eqv_one {sa : D → D → Bool} {d e : D} (h : d.same e = false) (ho : d.one e = false) : eqv sa d e = false := by
  cases d <;> cases e <;> simp_all [eqv, D.same, D.ref, D.one, D.cls]
  case vec.vec a k l b k' r => cases k <;> cases k' <;> simp_all
theorem eqv_none {sa : D → D → Bool} {d e : D} (h : d.same e = false) (ho : d.one e = true) (hp : parts d e = none) : eqv sa d e = false := by
  rcases one_forms ho with ⟨a, x, y, b, x', y', rfl, rfl⟩ | ⟨a, k, l, b, l', rfl, rfl⟩ | ⟨a, cs, sp, b, cs', sp', rfl, rfl⟩
  · simp [parts] at hp
  · simp [parts] at hp; simp [D.same, D.ref] at h; simp [eqv, h, hp]
  · simp [parts] at hp; simp [D.same, D.ref] at h; simp [eqv, h, hp]
theorem eqv_some {sa : D → D → Bool} {d e : D} {ps : List (D × D)} (h : d.same e = false) (ho : d.one e = true) (hp : parts d e = some ps) :
    eqv sa d e = ((!(d.cls == 107) || sa d e) && allE sa ps) := by
  rcases one_forms ho with ⟨a, x, y, b, x', y', rfl, rfl⟩ | ⟨a, k, l, b, l', rfl, rfl⟩ | ⟨a, cs, sp, b, cs', sp', rfl, rfl⟩
  · simp [parts] at hp; subst hp; simp [D.same, D.ref] at h; simp [eqv, h, allE, D.cls, Bool.and_comm]
  · simp only [parts] at hp
    split at hp
    case isFalse => simp at hp
    case isTrue hl =>
      simp only [Option.some.injEq] at hp; subst hp; simp [D.same, D.ref] at h
      have hc : ((D.vec a k l).cls == 107) = false := by cases k <;> rfl
      simp only [eqv, hc, allE, List.all_reverse]
      rw [eqvs_zip hl]
      simp [h, hl, allE]
  · simp only [parts] at hp
    split at hp
    case isFalse => simp at hp
    case isTrue hl => simp only [Option.some.injEq] at hp; subst hp; simp [D.same, D.ref] at h; simp [eqv, h, hl, allE, D.cls]
end PlX

open PySem PySem.W PySem.Calls PyProof.Rows in
theorem rstT4 {M : Model} {A : Around} {env : Env} {Q : Flow → Shared → Prop} {E : Value → Shared → Prop} {s : Shared} (h : Q Flow.next s) : wpAny M A (execs [] env) Q E s := by
  w_top off
  first | (walk1; exact h) | exact wpAny_execs_nil h
section T4X
open PySem PySem.W PySem.Calls PyProof.Rows
set_option Elab.async false
set_option maxRecDepth 100000
local macro_rules | `(tactic| walk_at "call builtin:isinstance") => `(tactic| ((with_reducible show wpAny _ _ (call (Value.builtin _) [_, _]) _ _ _); (first | refine' isi_sym ?k1 ?k2 ?k3 ?k4 ?_ | refine' isi_cons ?k1 ?k2 ?k3 ?k4 ?_ | refine' isi_text ?k1 ?k2 ?k3 ?k4 ?_ | refine' isi_vec ?k1 ?k2 ?k3 ?k4 ?_ | refine' isi_bc ?k1 ?k2 ?k3 ?k4 ?_ | refine' isi_opaque ?k1 ?k2 ?k3 ?k4 ?_ | refine' isi_int ?k1 ?k2 ?k3 ?k4 ?_); (case k4 => assumption); (case k1 => k_asm); (case k2 => assumption); (case k3 => assumption); intro tk'))
theorem eqv_same' {sa : D → D → Bool} {d e : D} (h : d.same e = true) : eqv sa d e = true := by
  cases d <;> cases e <;> simp_all [eqv, D.same, D.ref]
theorem Prs.nil_of {w : World} {lk look : Addr → Obj → Prop} {ps : List (D × D)} {vs : List Value} (h : Prs w lk look ps vs) : vs.length = ps.length := by
  induction ps generalizing vs with
  | nil => simp only [Prs] at h; subst h; rfl
  | cons p r ih => obtain ⟨t, n, v, u, vs', rfl, a, b, c, q⟩ := h; simp [ih q]
theorem Prs.unsnoc {w : World} {lk look : Addr → Obj → Prop} : ∀ {ps : List (D × D)} {d e : D} {vs : List Value}, Prs w lk look (ps ++ [(d, e)]) vs → ∃ t n v u vs', vs = vs' ++ [.ref t] ∧ look t (tupO [v, u] n) ∧ At w lk d v ∧ At w lk e u ∧ Prs w lk look ps vs'
  | [], d, e, vs, h => by obtain ⟨t, n, v, u, vs', rfl, a, b, c, q⟩ := h; simp only [Prs] at q; subst q; exact ⟨t, n, v, u, [], rfl, a, b, c, rfl⟩
  | (d', e') :: r, d, e, vs, h => by
    obtain ⟨t, n, v, u, vs', rfl, a, b, c, q⟩ := h
    obtain ⟨t', n', v', u', vs'', rfl, a', b', c', q'⟩ := q.unsnoc
    exact ⟨t', n', v', u', .ref t :: vs'', rfl, a', b', c', ⟨t, n, v, u, vs'', rfl, a, b, c, q'⟩⟩
theorem Prs.append {w : World} {lk look : Addr → Obj → Prop} : ∀ {ps qs : List (D × D)} {vs us : List Value}, Prs w lk look ps vs → Prs w lk look qs us → Prs w lk look (ps ++ qs) (vs ++ us)
  | [], _, vs, us, h, h' => by simp only [Prs] at h; subst h; exact h'
  | (d, e) :: r, qs, vs, us, h, h' => by
    obtain ⟨t, n, v, u, vs', rfl, a, b, c, q⟩ := h
    exact ⟨t, n, v, u, vs' ++ us, rfl, a, b, c, q.append h'⟩
def SaSpec (w : World) (lk : Addr → Obj → Prop) (g : Heap) (dp un : Nat) (fa : Addr) (sa : D → D → Bool) : Prop :=
  ∀ {outer : List Env} {s : Shared} {gd : Option (List Code)} {dp' un' : Nat} {d e : D} {v u : Value} {Q E : Value → Shared → Prop}, Gd w [] outer s.heap → Grow g s.heap → d.cls = 107 → e.cls = 107 → At w lk d v → At w lk e u → dp' ≤ dp → un' ≤ un →
    (∀ h' tk', Frame [] s.heap h' → Q (.bool (sa d e)) { s with heap := h', toks := tk' }) → wpAny (model PySem.Challenge.rw_np0028_01.row.prog w) (Ar dp' un' gd outer) (call (.ref fa) [v, u]) Q E s
theorem sa_call {w : World} {lk : Addr → Obj → Prop} {g : Heap} {dp un : Nat} {fa : Addr} {sa : D → D → Bool} (H : SaSpec w lk g dp un fa sa)
  {outer : List Env} {s : Shared} {gd : Option (List Code)} {dp' un' : Nat} {d e : D} {v u : Value} {Q E : Value → Shared → Prop} (G : Gd w [] outer s.heap) (hg : Grow g s.heap) (h1 : d.cls = 107) (h2 : e.cls = 107) (hd : At w lk d v) (he : At w lk e u) (k1 : dp' ≤ dp) (k2 : un' ≤ un)
    (ret : ∀ h' tk', Frame [] s.heap h' → Q (.bool (sa d e)) { s with heap := h', toks := tk' }) : wpAny (model PySem.Challenge.rw_np0028_01.row.prog w) (Ar dp' un' gd outer) (call (.ref fa) [v, u]) Q E s := H G hg h1 h2 hd he k1 k2 ret
theorem sizes_len : ∀ ps : List (D × D), ps.length ≤ sizes ps
  | [] => Nat.le_refl _
  | p :: r => by have := sizes_len r; have := p.1.size_pos; simp only [sizes, List.length_cons]; omega
structure StE where
  k : Nat
  tk : Tok
  ps : List (D × D)
  vs : List Value
  n : Nat
  tl : List (Addr × Obj)
theorem of_beq {n m : Nat} (h : (n == m) = true) : n = m := by simpa using h
theorem one_text {d e : D} (h : d.one e = true) (h' : (d.cls == 107) = true) : e.cls = 107 := by
  rcases one_forms h with ⟨a, x, y, b, x', y', rfl, rfl⟩ | ⟨a, k, l, b, l', rfl, rfl⟩ | ⟨a, cs, sp, b, cs', sp', rfl, rfl⟩
  · simp [D.cls] at h'
  · cases k <;> simp [D.cls] at h'
  · rfl
theorem grow0 {h h' : Heap} {L : Addr} {m : Str → Option Value} (F : Fr (hideAll h []) L h' m) : Grow h h' := fun b o e => F.keep b o (hideAll_get [] e fun q => nomatch q)
abbrev SN (s : String) := Str.ofString s
theorem len_q {prog : Program} {w : World} {A : Around} {E : Value → Shared → Prop} {s : Shared} {g : Heap} {L : Addr} {news : List (Addr × Obj)} {x : Addr} {vs : List Value} {n : Nat} {Q : Value → Shared → Prop} (N : News g L s.heap news) (h1 : (x, PySem.W.listOf vs.toArray n) ∈ news) (hf : vs.length < 1000000)
    (h : ∀ tk tk', Q (.int (vs.length : Nat) tk) { s with toks := tk' }) : wpAny (model prog w) A (call (.builtin "len") [.ref x]) Q E s :=
  call_len_list ⟨_, (N _ h1).1, rfl, n, rfl⟩ (by rw [List.size_toArray]; omega) (h _ _)
local macro_rules | `(tactic| walk_at "call builtin:len") => `(tactic| ((with_reducible show wpAny _ _ (call (Value.builtin "len") [Value.ref _]) _ _ _); refine' len_q ?k1 ?k2 ?k3 ?_; (case k1 => k_asm); (case k2 => k_mem); (case k3 => (simp only [List.length_append, List.length_cons, List.length_nil]; omega)); intro tk' tk''))
local macro_rules | `(tactic| k_all) => `(tactic| assumption)
local macro_rules | `(tactic| k_mem) => `(tactic| assumption)
local macro_rules | `(tactic| walk_at "call ref") => `(tactic| (
  (with_reducible show wpAny _ _ (call (Value.ref 210) _) _ _ _);
  refine' eq_spec (W := []) ?k1 ?k2 ?h0 ?h1 ?k4 ?k5 ?_; (case h0 => assumption); (case h1 => assumption);
  (case k1 => exact Gd.push0 (by assumption) (by k_asm)); (case k2 => exact lkH (by k_asm) (by assumption)); (case k4 => (try dsimp only); omega); (case k5 => (try dsimp only); omega);
  (intro h' tk' fr'; have F' := after0F (by k_asm) fr'; have N' := after0N (by k_asm) fr'; clear fr'; (try k_sweep); (try dsimp only))))
local macro_rules | `(tactic| walk_at "call ref") => `(tactic| (
  (with_reducible show wpAny _ _ (call (Value.ref 222) _) _ _ _);
  refine' one_class_spec (W := []) ?k1 ?k2 ?h0 ?h1 ?k4 ?k5 ?_; (case h0 => assumption); (case h1 => assumption);
  (case k1 => exact Gd.push0 (by assumption) (by k_asm)); (case k2 => exact lkH (by k_asm) (by assumption)); (case k4 => (try dsimp only); omega); (case k5 => (try dsimp only); omega);
  (intro h' tk' fr'; have F' := after0F (by k_asm) fr'; have N' := after0N (by k_asm) fr'; clear fr'; (try k_sweep); (try dsimp only))))
theorem news_more {g h h' : Heap} {L r q : Addr} {o oq : Obj} {m : Str → Option Value} {tl imm : List (Addr × Obj)} (F : Fr g L h m) (N : News g L h ((q, oq) :: tl)) (fr : Frame [] h h') (hr : h'.get? r = some o) (hn : h.get? r = none) (hB : Born h h' imm) :
    News g L h' ((r, o) :: (q, oq) :: (imm ++ tl)) ∧ r ≠ q ∧ ∀ p ∈ imm, p.1 ≠ q := by
  have key : ∀ a o, h'.get? a = some o → h.get? a = none → h'.get? a = some o ∧ a ≠ L ∧ g.get? a = none := by
    intro a o e n
    refine ⟨e, fun q => ?_, ?_⟩
    · obtain ⟨_, _, _, e', _⟩ := F.ns
      rw [q, e'] at n; cases n
    · cases q : g.get? a with
      | none => rfl
      | some o' => rw [F.keep _ _ q] at n; cases n
  have hq := (N _ List.mem_cons_self).1
  have ne : ∀ a, h.get? a = none → a ≠ q := fun a n e => by rw [e, hq] at n; cases n
  refine ⟨?_, ne _ hn, fun p hp => ne _ (hB p hp).2⟩
  intro p hp
  rcases List.mem_cons.mp hp with rfl | hp
  · exact key _ _ hr hn
  rcases List.mem_cons.mp hp with rfl | hp
  · exact after0N N fr _ List.mem_cons_self
  rcases List.mem_append.mp hp with hp | hp
  · exact key _ _ (hB p hp).1 (hB p hp).2
  · exact after0N N fr _ (List.mem_cons_of_mem _ hp)
theorem callWith_fa {M : Model} {A : Around} {E : Value → Shared → Prop} {s : Shared} {h₀ : Heap} {env : Env} {pos : Pos} {f : Addr} {first : List Value} {e : PySem.Expr} {rest : List PySem.Expr} {Q : Value → Shared → Prop} (hf : ∃ o fd, h₀.get? f = some o ∧ o.data = .func fd)
    (h : wpAny M A (spliced (backTo pos (starEach (e :: rest) env))) (fun vs s₁ => Grow h₀ s₁.heap ∧ wpAny M A (call (.ref f) (first ++ vs)) Q E s₁) E s)
    (he : starEach (e :: rest) env = (false, eval e env) :: starEach rest env := by rfl) : wpAny M A (callWith pos (.ref f) first (backTo pos (starEach (e :: rest) env)) []) Q E s := by
  obtain ⟨o, fd, ho, hd⟩ := hf
  exact callWith_meth hd ho h he
local macro_rules | `(tactic| walk_at "callWith ref") => `(tactic| (k_dflt (refine callWith_fa (h₀ := hideAll _ _) (by assumption) ?_)))
local macro_rules | `(tactic| walk_at "And") => `(tactic| ((with_reducible show Grow _ _ ∧ _); refine ⟨Fr.keep (by k_asm), ?_⟩; try dsimp only [List.nil_append, List.cons_append]))
local macro_rules | `(tactic| walk_at "call ref") => `(tactic| (
  refine' sa_call ?H ?k1 ?k2 ?k3 ?k4 ?h0 ?h1 ?k5 ?k6 ?_; (case H => assumption); (case h0 => assumption); (case h1 => assumption); (case k3 => exact of_beq (by assumption)); (case k4 => exact one_text (by assumption) (by assumption));
  (case k1 => exact Gd.push0 (by assumption) (by k_asm)); (case k2 => exact grow0 (by k_asm)); (case k5 => (try dsimp only); omega); (case k6 => (try dsimp only); omega);
  (intro h' tk' fr'; have F' := after0F (by k_asm) fr'; have N' := after0N (by k_asm) fr'; clear fr'; (try k_sweep); (try dsimp only))))
local macro_rules | `(tactic| walk_at "call ref") => `(tactic| (
  (with_reducible show wpAny _ _ (call (Value.ref 215) _) _ _ _);
  refine' parts_spec ?k1 ?k2 ?h0 ?h1 ?h2 ?k4 ?k5 ?r1 ?r2; (case h0 => assumption); (case h1 => assumption); (case h2 => assumption);
  (case k1 => exact Gd.push0 (by assumption) (by k_asm)); (case k2 => exact lkH (by k_asm) (by assumption)); (case k4 => (try dsimp only); omega); (case k5 => (try dsimp only); omega);
  (case' r1 => (intro h' tk' hp' fr'; have F' := after0F (by k_asm) fr'; have N' := after0N (by k_asm) fr'; clear fr'; (try k_sweep); (try dsimp only)));
  (case' r2 => (intro ps' r' n' vs' imm' h' tk' hp' fr' hr' hn' hP' hB'; have N0' := news_more (by k_asm) (by k_asm) fr' hr' hn' hB'; obtain ⟨N', ne1', ne2'⟩ := N0'; have F' := after0F (by k_asm) fr'; clear fr'; (try k_sweep); (try dsimp only)))))
theorem all_same {sa : D → D → Bool} {d e d₁ e₁ : D} {ps : List (D × D)} (h : allE sa (ps ++ [(d₁, e₁)]) = eqv sa d e) (hs : d₁.same e₁ = true) : allE sa ps = eqv sa d e := by
  rw [← h]; simp [allE, eqv_same' hs]
theorem all_false {sa : D → D → Bool} {d e d₁ e₁ : D} {ps : List (D × D)} (h : allE sa (ps ++ [(d₁, e₁)]) = eqv sa d e) (hs : eqv sa d₁ e₁ = false) : eqv sa d e = false := by
  rw [← h]; simp [allE, hs]
theorem all_some {sa : D → D → Bool} {d e d₁ e₁ : D} {ps qs : List (D × D)} (h : allE sa (ps ++ [(d₁, e₁)]) = eqv sa d e) (hs : d₁.same e₁ = false) (ho : d₁.one e₁ = true) (hp : parts d₁ e₁ = some qs) (hc : (d₁.cls == 107) = false ∨ sa d₁ e₁ = true) : allE sa (ps ++ qs) = eqv sa d e := by
  have q := eqv_some (sa := sa) hs ho hp
  have : eqv sa d₁ e₁ = allE sa qs := by
    rcases hc with hc | hc <;> simp [q, hc]
  rw [← h]; simp only [allE, List.all_append, List.all_cons, List.all_nil, Bool.and_true, this]
theorem eqv_saf {sa : D → D → Bool} {d e : D} {qs : List (D × D)} (hs : d.same e = false) (ho : d.one e = true) (hp : parts d e = some qs) (hc : (d.cls == 107) = true) (hf : sa d e = false) : eqv sa d e = false := by
  rw [eqv_some (sa := sa) hs ho hp]; simp [hc, hf]
theorem no_long {vs us : List Value} (h : vs.length + us.length ≤ 100000) : ¬(!vs.toArray.isEmpty && Builtin.List.listTooLong (vs.toArray.size + us.toArray.size)) = true := by
  have : Builtin.List.listTooLong (vs.toArray.size + us.toArray.size) = false := by
    simp only [Builtin.List.listTooLong, List.size_toArray, decide_eq_false_iff_not, sizeLine_eq]
    omega
  rw [this]; simp
theorem led_mem {a b : Addr × Obj} (l : List (Addr × Obj)) : ∀ p ∈ b :: a :: l, p ∈ a :: b :: l := by
  intro p hp
  simp only [List.mem_cons] at hp ⊢
  rcases hp with h | h | h <;> simp [h]
set_option maxHeartbeats 8000000 in
theorem equal_by_spec {w : World} {outer : List Env} {s : Shared} {dp un : Nat} {gd : Option (List Code)} {lk : Addr → Obj → Prop} {d e : D} {v u : Value} {fa : Addr} {sa : D → D → Bool} {Q E : Value → Shared → Prop}
    (G : Gd w [] outer s.heap) (hlk : ∀ a o, lk a o → (hideAll s.heap []).get? a = some o) (hd : At w lk d v) (he : At w lk e u) (hsz : d.size ≤ 90000) (hfa : ∃ o fd, (hideAll s.heap []).get? fa = some o ∧ o.data = .func fd) (hsa : SaSpec w lk s.heap (dp + 1) (un + 200) fa sa) (hdp : dp + 4 < recursionLimit) (hun : un + 400 < cLine)
    (ret : ∀ h' tk', Frame [] s.heap h' → Q (.bool (eqv sa d e)) { s with heap := h', toks := tk' }) :
    wpAny (model PySem.Challenge.rw_np0028_01.row.prog w) (Ar dp un gd outer) (call (.ref 229) [v, u, .ref fa]) Q E s := by
  refine wpAny_call ?_
  refine enter (binds := [(Str.ofString "one", v), (Str.ofString "other", u), (Str.ofString "strings_alike", .ref fa)]) G (by omega) (by k_is) (by k_is) (BindsTo.of_eq rfl) (locs rfl) rfl rfl rfl (by decide) ?_
  intro base p loose mean mg mb h₁ tk₁ F hN B T
  have X := G.X
  have N := hN [] (fun _ hq => nomatch hq)
  clear hN B
  try k_fold
  have q1 := hd.handed
  have q2 := he.handed
  repeat' (first | (k_unfold; (try dsimp only)) | ((fail_if_success (with_reducible show wpAny _ _ (exec (Stmt.While _ _ _ _) _) _ _ _)); walk1) | ((fail_if_success (with_reducible show wpAny _ _ (exec (Stmt.While _ _ _ _) _) _ _ _)); dsimp only; walk1))
  rename_i t0 _ _ q _ hlt _ _ F0 N0
  refine ksw_while (fun c : StE => (q, PySem.W.listOf c.vs.toArray c.n) :: c.tl) (fun c => [(Str.ofString "waiting", Value.ref q), (Str.ofString "steps", Value.int c.k c.tk)]) (fun _ => True) [Str.ofString "left", Str.ofString "right", Str.ofString "parts"]
    (fun c => Prs w lk (fun a o => (a, o) ∈ c.tl) c.ps c.vs ∧ (∀ p ∈ c.tl, p.1 ≠ q) ∧ c.k + sizes c.ps ≤ 90000 ∧ allE sa c.ps = eqv sa d e) (fun c => sizes c.ps) ⟨0, tk, [(d, e)], [.ref t0], 0, [(t0, tupO [v, u] 0)]⟩ F0 N0 trivial ?_ ?_ ?_
  · intro p hp
    simp only [List.mem_cons, List.not_mem_nil, or_false] at hp
    rcases hp with rfl | rfl <;> rfl
  · refine ⟨⟨t0, 0, v, u, [], rfl, List.mem_cons_self, hd, he, rfl⟩, ?_, by simp [sizes]; exact hsz, by simp [allE]⟩
    intro p hp
    rw [List.mem_singleton] at hp; subst hp
    exact Nat.ne_of_lt hlt
  · clear F0 N0
    rintro ⟨k, tkk, ps, vs, n, tl⟩ U h tk - ⟨hP, hoff, hk, hall⟩ F N
    dsimp only at hP hoff hk hall F N
    have hlen := hP.nil_of
    have hps := sizes_len ps
    rcases List.eq_nil_or_concat ps with rfl | ⟨ps', ⟨d₁, e₁⟩, rfl⟩
    · simp only [Prs] at hP; subst hP
      k_steps
      simp only [allE, List.all_nil] at hall
      rw [← hall] at ret
      exact ret _ _ (Frame.of_Fr (by assumption))
    · rw [List.concat_eq_append] at *
      obtain ⟨t, nt, v₁, u₁, vs', rfl, hm, hd₁, he₁, hP'⟩ := hP.unsnoc
      have hlen' : vs'.length = ps'.length := hP'.nil_of
      have hsp : sizes (ps' ++ [(d₁, e₁)]) = sizes ps' + d₁.size := by simp [sizes_append, sizes]
      have hps' := sizes_len ps'
      have hpos := d₁.size_pos
      rw [hsp] at hk
      have q3 := hd₁.handed
      have q4 := he₁.handed
      iterate 11 walk1
      rw [if_pos (by simp)]
      try k_fold
      repeat' (first | (k_unfold; (try dsimp only)) | ((fail_if_success (with_reducible show wpAny _ _ (compareOp CmpOp.Gt (Value.int _ _) (Value.int _ _)) _ _ _)); walk1) | ((fail_if_success (with_reducible show wpAny _ _ (compareOp CmpOp.Gt (Value.int _ _) (Value.int _ _)) _ _ _)); dsimp only; walk1))
      iterate 2 walk1
      rw [if_neg (by simp; omega)]
      try k_fold
      repeat' (first | (k_unfold; (try dsimp only)) | ((fail_if_success (with_reducible show wpAny _ _ (call (Value.builtin "list.pop") _) _ _ _)); walk1) | ((fail_if_success (with_reducible show wpAny _ _ (call (Value.builtin "list.pop") _) _ _ _)); dsimp only; walk1))
      refine kl_pop (by k_asm) (by k_asm) (by simpa using kpa_last (.ref t) vs') (Upd.head hoff) (by simp only [List.length_append, List.length_cons, List.length_nil]; rw [sizeLine_eq]; omega) ?_
      intro h' F' N'
      k_sweep
      k_steps
      · rename News _ _ _ _ => N9
        refine ksw_end ⟨k + 1, _, ps', vs', n + 1, tl⟩ (by assumption) N9 (fun p hp => hp) trivial (by kst_all) (by intro z h2 h3; simp only [List.forall_mem_cons, List.not_mem_nil, false_implies, implies_true, and_true, ne_eq, List.contains_cons, List.contains_nil, Bool.or_false, Bool.or_eq_false_iff, beq_eq_false_iff_ne] at h2 h3; simp [kstB, h2, h3]) ⟨hP', hoff, (by dsimp only; omega), ?_⟩ (by dsimp only; omega)
        exact all_same hall (by assumption)
      · rename_i ps2 r2 n2 vs2 imm _ _ hp2 hr2 hn2 hP2 hB2 hrq hiq _ _ _ _ _ _ _ _
        have hsz2 := parts_size hp2
        have hl2 := hP2.nil_of
        have hs2 := sizes_len ps2
        have hP3 : Prs w lk (fun a o => (a, o) ∈ (r2, PySem.W.listOf vs2.toArray n2) :: (imm ++ tl)) (ps' ++ ps2) (vs' ++ vs2) :=
          (hP'.mono fun a o z => List.mem_cons_of_mem _ (List.mem_append_right _ z)).append (hP2.mono fun a o z => List.mem_cons_of_mem _ (List.mem_append_left _ z))
        have hoff3 : ∀ p ∈ (r2, PySem.W.listOf vs2.toArray n2) :: (imm ++ tl), p.1 ≠ q := by
          intro p hp
          rcases List.mem_cons.mp hp with rfl | hp
          · exact hrq
          rcases List.mem_append.mp hp with hp | hp
          · exact hiq p hp
          · exact hoff p hp
        have hoff4 : ∀ p ∈ imm ++ tl, p.1 ≠ q := fun p hp => hoff3 p (List.mem_cons_of_mem _ hp)
        have room : vs'.length + vs2.length ≤ 100000 := by omega
        by_cases hv2 : vs2 = []
        · subst hv2
          refine kxn_extend (by k_asm) (by k_asm) List.mem_cons_self rfl (Upd.tail hrq (Upd.head hoff4)) (no_long room) (by simp only [sizeLine_eq]; omega) (by simp only [List.size_toArray, sizeLine_eq]; omega) ?_
          intro h9 F9 N9
          rw [List.append_nil] at hP3
          k_sweep
          repeat' (first | walk1 | (dsimp only; walk1))
          refine ksw_end ⟨k + 1, _, ps' ++ ps2, vs', n + 1, (r2, PySem.W.listOf [].toArray n2) :: (imm ++ tl)⟩ (by assumption) N9 (led_mem _) trivial (by kst_all) (by intro z h2 h3; simp only [List.forall_mem_cons, List.not_mem_nil, false_implies, implies_true, and_true, ne_eq, List.contains_cons, List.contains_nil, Bool.or_false, Bool.or_eq_false_iff, beq_eq_false_iff_ne] at h2 h3; simp [kstB, h2, h3]) ⟨hP3, hoff3, (by simp only [sizes_append, sizes]; omega), ?_⟩ (by simp only [sizes_append, sizes]; omega)
          exact all_some hall (by assumption) (by assumption) (by assumption) (.inr (by assumption))
        · refine kl_extend (by k_asm) (by k_asm) List.mem_cons_self rfl ?_ (Upd.tail hrq (Upd.head hoff4)) (no_long room) (by simp only [sizeLine_eq]; omega) (by simp only [List.size_toArray, sizeLine_eq]; omega) ?_
          · simpa using hv2
          intro h9 F9 N9
          k_sweep
          repeat' (first | walk1 | (dsimp only; walk1))
          refine ksw_end ⟨k + 1, _, ps' ++ ps2, vs' ++ vs2, n + 2, (r2, PySem.W.listOf vs2.toArray n2) :: (imm ++ tl)⟩ (by assumption) N9 (led_mem _) trivial (by kst_all) (by intro z h2 h3; simp only [List.forall_mem_cons, List.not_mem_nil, false_implies, implies_true, and_true, ne_eq, List.contains_cons, List.contains_nil, Bool.or_false, Bool.or_eq_false_iff, beq_eq_false_iff_ne] at h2 h3; simp [kstB, h2, h3]) ⟨hP3, hoff3, (by simp only [sizes_append, sizes]; omega), ?_⟩ (by simp only [sizes_append, sizes]; omega)
          exact all_some hall (by assumption) (by assumption) (by assumption) (.inr (by assumption))
      · rw [all_false hall (eqv_saf (by assumption) (by assumption) (by assumption) (by assumption) (by assumption))] at ret
        exact ret _ _ (Frame.of_Fr (by assumption))
      · rename_i ps2 r2 n2 vs2 imm _ _ hp2 hr2 hn2 hP2 hB2 hrq hiq _ _ _ _ _
        have hsz2 := parts_size hp2
        have hl2 := hP2.nil_of
        have hs2 := sizes_len ps2
        have hP3 : Prs w lk (fun a o => (a, o) ∈ (r2, PySem.W.listOf vs2.toArray n2) :: (imm ++ tl)) (ps' ++ ps2) (vs' ++ vs2) :=
          (hP'.mono fun a o z => List.mem_cons_of_mem _ (List.mem_append_right _ z)).append (hP2.mono fun a o z => List.mem_cons_of_mem _ (List.mem_append_left _ z))
        have hoff3 : ∀ p ∈ (r2, PySem.W.listOf vs2.toArray n2) :: (imm ++ tl), p.1 ≠ q := by
          intro p hp
          rcases List.mem_cons.mp hp with rfl | hp
          · exact hrq
          rcases List.mem_append.mp hp with hp | hp
          · exact hiq p hp
          · exact hoff p hp
        have hoff4 : ∀ p ∈ imm ++ tl, p.1 ≠ q := fun p hp => hoff3 p (List.mem_cons_of_mem _ hp)
        have room : vs'.length + vs2.length ≤ 100000 := by omega
        by_cases hv2 : vs2 = []
        · subst hv2
          refine kxn_extend (by k_asm) (by k_asm) List.mem_cons_self rfl (Upd.tail hrq (Upd.head hoff4)) (no_long room) (by simp only [sizeLine_eq]; omega) (by simp only [List.size_toArray, sizeLine_eq]; omega) ?_
          intro h9 F9 N9
          rw [List.append_nil] at hP3
          k_sweep
          repeat' (first | walk1 | (dsimp only; walk1))
          refine ksw_end ⟨k + 1, _, ps' ++ ps2, vs', n + 1, (r2, PySem.W.listOf [].toArray n2) :: (imm ++ tl)⟩ (by assumption) N9 (led_mem _) trivial (by kst_all) (by intro z h2 h3; simp only [List.forall_mem_cons, List.not_mem_nil, false_implies, implies_true, and_true, ne_eq, List.contains_cons, List.contains_nil, Bool.or_false, Bool.or_eq_false_iff, beq_eq_false_iff_ne] at h2 h3; simp [kstB, h2, h3]) ⟨hP3, hoff3, (by simp only [sizes_append, sizes]; omega), ?_⟩ (by simp only [sizes_append, sizes]; omega)
          exact all_some hall (by assumption) (by assumption) (by assumption) (.inl (by assumption))
        · refine kl_extend (by k_asm) (by k_asm) List.mem_cons_self rfl ?_ (Upd.tail hrq (Upd.head hoff4)) (no_long room) (by simp only [sizeLine_eq]; omega) (by simp only [List.size_toArray, sizeLine_eq]; omega) ?_
          · simpa using hv2
          intro h9 F9 N9
          k_sweep
          repeat' (first | walk1 | (dsimp only; walk1))
          refine ksw_end ⟨k + 1, _, ps' ++ ps2, vs' ++ vs2, n + 2, (r2, PySem.W.listOf vs2.toArray n2) :: (imm ++ tl)⟩ (by assumption) N9 (led_mem _) trivial (by kst_all) (by intro z h2 h3; simp only [List.forall_mem_cons, List.not_mem_nil, false_implies, implies_true, and_true, ne_eq, List.contains_cons, List.contains_nil, Bool.or_false, Bool.or_eq_false_iff, beq_eq_false_iff_ne] at h2 h3; simp [kstB, h2, h3]) ⟨hP3, hoff3, (by simp only [sizes_append, sizes]; omega), ?_⟩ (by simp only [sizes_append, sizes]; omega)
          exact all_some hall (by assumption) (by assumption) (by assumption) (.inl (by assumption))
      · rw [all_false hall (eqv_none (by assumption) (by assumption) (by assumption))] at ret
        exact ret _ _ (Frame.of_Fr (by assumption))
      · rw [all_false hall (eqv_one (by assumption) (by assumption))] at ret
        exact ret _ _ (Frame.of_Fr (by assumption))
end T4X

open PySem PySem.W PySem.Calls PyProof.Rows in
theorem rstT5 {M : Model} {A : Around} {env : Env} {Q : Flow → Shared → Prop} {E : Value → Shared → Prop} {s : Shared} (h : Q Flow.next s) : wpAny M A (execs [] env) Q E s := by
  w_top off
  first | (walk1; exact h) | exact wpAny_execs_nil h
section T5X
open PySem PySem.W PySem.Calls PyProof.Rows
set_option Elab.async false
set_option maxRecDepth 100000
theorem hide_up {h : Heap} {a : Addr} {o : Obj} (e : h.get? a = some o) : (hideAll h []).get? a = some o := hideAll_get [] e fun q => nomatch q
theorem are_any_sa {w : World} {lk : Addr → Obj → Prop} {g : Heap} {dp un : Nat} (hg : ∀ a o, lk a o → g.get? a = some o) (hdp : dp + 1 < recursionLimit) (hun : un + 20 < cLine) : SaSpec w lk g dp un 236 (fun _ _ => true) := by
  intro outer s gd dp' un' d e v u Q E G hk _ _ hd he k1 k2 ret
  exact are_any_spec G (fun a o z => hide_up (hk _ _ (hg _ _ z))) hd he (by omega) (by omega) ret
theorem any_fn {w : World} {h : Heap} (X : (hd.heap_1 w.params).In h) : ∃ o fd, h.get? 236 = some o ∧ o.data = .func fd := by
  have e : ∃ o fd, (hd.heap_1 w.params).lookup 236 = some o ∧ o.data = .func fd := ⟨_, _, by k_is, rfl⟩
  obtain ⟨o, fd, e, q⟩ := e
  exact ⟨o, fd, X _ _ e, q⟩
local macro_rules | `(tactic| walk_at "call ref") => `(tactic| (
  (with_reducible show wpAny _ _ (call (Value.ref 229) [_, _, Value.ref 236]) _ _ _);
  refine' equal_by_spec (sa := fun _ _ => true) ?k1 ?k2 ?h0 ?h1 ?h2 ?k3 ?k4 ?k5 ?k6 ?_; (case h0 => assumption); (case h1 => assumption); (case h2 => assumption);
  (case k1 => exact Gd.push0 (by assumption) (by k_asm)); (case k2 => exact lkH (by k_asm) (by assumption)); (case k3 => exact any_fn (fun a o e => hide_up (Fr.keep (by k_asm) _ _ (Gd.X (by assumption) a o e))));
  (case k4 => exact are_any_sa (fun a o e => Fr.keep (by k_asm) _ _ ((by assumption : ∀ a o, _ → (hideAll _ _).get? a = some o) a o e)) (by dsimp only; omega) (by dsimp only; omega)); (case k5 => (try dsimp only); omega); (case k6 => (try dsimp only); omega);
  (intro h' tk' fr'; have F' := after0F (by k_asm) fr'; have N' := after0N (by k_asm) fr'; clear fr'; (try k_sweep); (try dsimp only))))
set_option maxHeartbeats 4000000 in
theorem equal_spec {w : World} {outer : List Env} {s : Shared} {dp un : Nat} {gd : Option (List Code)} {lk : Addr → Obj → Prop} {d e : D} {v u : Value} {Q E : Value → Shared → Prop}
    (G : Gd w [] outer s.heap) (hlk : ∀ a o, lk a o → (hideAll s.heap []).get? a = some o) (hd : At w lk d v) (he : At w lk e u) (hsz : d.size ≤ 90000) (hdp : dp + 8 < recursionLimit) (hun : un + 800 < cLine)
    (ret : ∀ h' tk', Frame [] s.heap h' → Q (.bool (eqv (fun _ _ => true) d e)) { s with heap := h', toks := tk' }) :
    wpAny (model PySem.Challenge.rw_np0028_01.row.prog w) (Ar dp un gd outer) (call (.ref 243) [v, u]) Q E s := by
  refine wpAny_call ?_
  refine enter (binds := [(Str.ofString "one", v), (Str.ofString "other", u)]) G (by omega) (by k_is) (by k_is) (BindsTo.of_eq rfl) (locs rfl) rfl rfl rfl (by decide) ?_
  intro base p loose mean mg mb h₁ tk₁ F hN B T
  have X := G.X
  have N := hN [] (fun _ hq => nomatch hq)
  clear hN B
  try k_fold
  have q1 := hd.handed
  have q2 := he.handed
  k_steps
  exact ret _ _ (Frame.of_Fr (by assumption))
end T5X

open PySem PySem.W PySem.Calls PyProof.Rows in
theorem rstT6 {M : Model} {A : Around} {env : Env} {Q : Flow → Shared → Prop} {E : Value → Shared → Prop} {s : Shared} (h : Q Flow.next s) : wpAny M A (execs [] env) Q E s := by
  w_top off
  first | (walk1; exact h) | exact wpAny_execs_nil h
section T6X
open PySem PySem.W PySem.Calls PyProof.Rows
set_option Elab.async false
set_option maxRecDepth 100000
open PySem.Spec in
def spD : Option Int → PyData
  | none => .none
  | some k => .list [.tuple [.int 0, .int 1, .int k]]
theorem spD_eqv (sp sp' : Option Int) : PyData.eqv (spD sp) (spD sp') = (sp == sp') := by
  cases sp <;> cases sp' <;> simp [spD, PyData.eqv, PyData.eqvAll]
theorem spD_shaped (sp : Option Int) : SeqAt.shaped (spD sp) = true := by
  cases sp <;> simp [spD, SeqAt.shaped, PyData.canLay0, PyData.canLayAll0, PyData.depth, PyData.depthAll]
theorem SpAt.handed {lk : Addr → Obj → Prop} {sp : Option Int} {v : Value} (h : SpAt lk sp v) : handedIn v = true := by
  cases sp with
  | none => obtain rfl : v = .none := h; rfl
  | some k => obtain ⟨y, t, n, m, a1, a2, a3, rfl, _, _⟩ := h; rfl
theorem sp_reads {lk : Addr → Obj → Prop} {h : Heap} {sp : Option Int} {v : Value} (hl : ∀ a o, lk a o → h.get? a = some o) (x : SpAt lk sp v) : ∃ as, Reads h v (spD sp) as := by
  cases sp with
  | none => obtain rfl : v = .none := x; exact ⟨_, Reads.none⟩
  | some k =>
    obtain ⟨y, t, n, m, a1, a2, a3, rfl, e1, e2⟩ := x
    exact ⟨_, reads_list_at (hl _ _ e1) rfl rfl (ReadsAll.cons (reads_tuple_at (hl _ _ e2) rfl rfl (ReadsAll.cons (Reads.int _ _) (ReadsAll.cons (Reads.int _ _) (ReadsAll.cons (Reads.int _ _) ReadsAll.nil)))) ReadsAll.nil)⟩
theorem eq_spans {prog : Program} {w : World} {A : Around} {E : Value → Shared → Prop} {s : Shared} {g : Heap} {L : Addr} {m : Str → Option Value} {lk : Addr → Obj → Prop} {sp sp' : Option Int} {v u : Value} {Q : Value → Shared → Prop}
    (F : Fr g L s.heap m) (hlk : ∀ a o, lk a o → g.get? a = some o) (h1 : SpAt lk sp v) (h2 : SpAt lk sp' u) (hu : A.units + 64 < cLine) (h : Q (.bool (sp == sp')) s) : wpAny (model prog w) A (compareOp .Eq v u) Q E s := by
  have hl : ∀ a o, lk a o → s.heap.get? a = some o := fun a o e => F.keep _ _ (hlk _ _ e)
  obtain ⟨as, r1⟩ := sp_reads hl h1
  obtain ⟨bs, r2⟩ := sp_reads hl h2
  exact eq_dataH r1 r2 (spD_shaped _) (spD_shaped _) hu (by rw [spD_eqv]; exact h)
set_option maxHeartbeats 4000000 in
theorem are_spans_spec {w : World} {outer : List Env} {s : Shared} {dp un : Nat} {gd : Option (List Code)} {lk : Addr → Obj → Prop} {sp sp' : Option Int} {v u : Value} {Q E : Value → Shared → Prop}
    (G : Gd w [] outer s.heap) (hlk : ∀ a o, lk a o → (hideAll s.heap []).get? a = some o) (hd : SpAt lk sp v) (he : SpAt lk sp' u) (hdp : dp + 2 < recursionLimit) (hun : un + 140 < cLine)
    (ret : ∀ h' tk', Frame [] s.heap h' → Q (.bool (sp == sp')) { s with heap := h', toks := tk' }) :
    wpAny (model PySem.Challenge.rw_np0028_01.row.prog w) (Ar dp un gd outer) (call (.ref 368) [v, u]) Q E s := by
  refine wpAny_call ?_
  refine enter (binds := [(Str.ofString "one", v), (Str.ofString "other", u)]) G (by omega) (by k_is) (by k_is) (BindsTo.of_eq rfl) (locs rfl) rfl rfl rfl (by decide) ?_
  intro base p loose mean mg mb h₁ tk₁ F hN B T
  have X := G.X
  have N := hN [] (fun _ hq => nomatch hq)
  clear hN B
  try k_fold
  have q1 := hd.handed
  have q2 := he.handed
  repeat' (first | k_unfold | walk1 | (dsimp only; walk1))
  refine eq_spans (by k_asm) hlk hd he (by show un + 3 + 64 < cLine; omega) ?_
  try k_fold
  k_steps
  exact ret _ _ (Frame.of_Fr (by assumption))
end T6X

end Mine
end GrpT3X0

namespace Mine
open PySem PySem.W PySem.Calls PyProof.Rows in
theorem rstBase2 {M : Model} {A : Around} {env : Env} {Q : Flow → Shared → Prop} {E : Value → Shared → Prop} {s : Shared} (h : Q Flow.next s) : wpAny M A (execs [] env) Q E s := by
  w_top off
  first | (walk1; exact h) | exact wpAny_execs_nil h
end Mine
section Base2X
open PySem PySem.W PySem.Calls PyProof.Rows
set_option Elab.async false
set_option maxRecDepth 100000
namespace Mine
section
variable {w : World} {outer : List Env} {W : List Addr} {s : Shared} {dp un : Nat} {gd : Option (List Code)} {R : Result → Shared → Prop}
  {name qual : Str} {params : Arguments} {body : List Stmt} {scope : Scope} {dV kV doc pm cdv ct oc : Value} {an od : Option Addr} {osl : Array (Option Value)} {f : Addr} {args : Args} {binds : List (Str × Value)}
theorem enterCT (G : Gd w W outer s.heap) (hroom : dp < recursionLimit)
    (ho : (hd.heap_1 w.params).lookup f = some ⟨oc, od, .func (fnOf name qual params body scope dV kV doc pm an cdv ct), osl⟩) (hcd : codeIn (hd.heap_1 w.params) cdv qual = true)
    (hbind : BindsTo s (fnOf name qual params body scope dV kV doc pm an cdv ct) args binds) (hkind : (binds.all fun y => scope.names.lookup y.1 == some .local || scope.names.lookup y.1 == some .cell) = true)
    (hnd : ((cellsFrom 0 scope.names []).map (·.1)).Nodup) (hco : scope.isCoroutine = false) (hgen : scope.isGenerator = false) (hk : scope.kind = .function)
    (h : ∀ base p loose mean mg mb h₁ tk cells, s.toks ≤ tk → Fr (hideAll s.heap W) s.heap.objs.size h₁ (bindL (envOfC qual scope s.heap.objs.size f cdv).kindOf binds fun _ => none) →
      (∀ news : List (Addr × Obj), (∀ q ∈ news, q.1 ∈ W ∧ s.heap.get? q.1 = some q.2) → News (hideAll s.heap W) s.heap.objs.size h₁ (cells ++ news)) →
      CellsAre (bindC (envOfC qual scope s.heap.objs.size f cdv).kindOf binds fun _ => none) (cellsFrom (s.heap.objs.size + 1) scope.names []) cells →
      Below (Ar dp un gd outer) base outer (hideAll s.heap W) → Top p loose mean mg mb (hideAll s.heap W) →
      wpAny (model PySem.Challenge.rw_np0028_01.row.prog w) ((Ar dp un gd outer).deeper (envOfC qual scope s.heap.objs.size f cdv)) (execs body (envOfC qual scope s.heap.objs.size f cdv))
        (fun fl s' => R (.ok (.ret (match fl with | .ret v => v | _ => .none))) s') (fun _ _ => False) { s with heap := h₁, toks := tk }) :
    codeAny (model PySem.Challenge.rw_np0028_01.row.prog w) (Ar dp un gd outer) (.call (.ref f) args) R s := by
  obtain ⟨base, p, loose, mean, mg, mb, h1, h2, T⟩ := G.ex
  have st : (hideAll s.heap W).StaysIn s.heap := fun b o e => of_hideAll W e
  refine codeAny_call_function hroom (st _ _ (G.X _ _ ho)) rfl hco hgen rfl ((codeRec_of G.X hcd).keeps st) (hbind _ _ _ _ ?_)
  refine wpAny_tok (wpAny_newFunctionEnv_cells hk (kindsX hkind _) fun env' he s' x le => ?_)
  subst he
  refine ⟨(T.nolimit.keeps st).keeps x.toInCall.keep, codeAny_func ?_⟩
  obtain ⟨h₁, tk, rfl, _⟩ := x.done
  replace le : s.toks ≤ tk := le
  have hk₁ := x.toInCall.keep
  obtain ⟨cells, NC, Y⟩ := Cl.news (h₀ := s.heap) (Nat.le_refl _) fun n c hm => ⟨x.cell n c (lookup_of_mem_nodup (cellsFrom_names scope.names 0 (s.heap.objs.size + 1) [] [] rfl ▸ hnd) hm), x.above n c hm⟩
  refine wpAny_mono (h base p loose mean mg mb h₁ tk cells le ⟨x.toInCall.ns, fun b o e => hk₁ b o (of_hideAll W e), Nat.le_of_eq (hideAll_size _ _)⟩ (fun news hn q hq => ?_) Y ⟨rfl, h1, h2⟩ T) (fun _ _ y => y) fun _ _ y => y.elim
  rcases List.mem_append.mp hq with hq | hq
  · refine ⟨(NC q hq).1, (NC q hq).2.1, ?_⟩
    cases e : (hideAll s.heap W).get? q.1 with
    | none => rfl
    | some o => have := of_hideAll W e; rw [(NC q hq).2.2] at this; cases this
  · obtain ⟨a, b⟩ := hn q hq
    exact ⟨hk₁ _ _ b, Nat.ne_of_lt (Heap.lt_size b), hideAll_none W a⟩
theorem enterC (G : Gd w W outer s.heap) (hroom : dp < recursionLimit)
    (ho : (hd.heap_1 w.params).lookup f = some ⟨oc, od, .func (fnOf name qual params body scope dV kV doc pm an cdv ct), osl⟩) (hcd : codeIn (hd.heap_1 w.params) cdv qual = true)
    (hbind : BindsTo s (fnOf name qual params body scope dV kV doc pm an cdv ct) args binds) (hkind : (binds.all fun y => scope.names.lookup y.1 == some .local || scope.names.lookup y.1 == some .cell) = true)
    (hnd : ((cellsFrom 0 scope.names []).map (·.1)).Nodup) (hco : scope.isCoroutine = false) (hgen : scope.isGenerator = false) (hk : scope.kind = .function)
    (h : ∀ base p loose mean mg mb h₁ tk cells, Fr (hideAll s.heap W) s.heap.objs.size h₁ (bindL (envOfC qual scope s.heap.objs.size f cdv).kindOf binds fun _ => none) →
      (∀ news : List (Addr × Obj), (∀ q ∈ news, q.1 ∈ W ∧ s.heap.get? q.1 = some q.2) → News (hideAll s.heap W) s.heap.objs.size h₁ (cells ++ news)) →
      CellsAre (bindC (envOfC qual scope s.heap.objs.size f cdv).kindOf binds fun _ => none) (cellsFrom (s.heap.objs.size + 1) scope.names []) cells →
      Below (Ar dp un gd outer) base outer (hideAll s.heap W) → Top p loose mean mg mb (hideAll s.heap W) →
      wpAny (model PySem.Challenge.rw_np0028_01.row.prog w) ((Ar dp un gd outer).deeper (envOfC qual scope s.heap.objs.size f cdv)) (execs body (envOfC qual scope s.heap.objs.size f cdv))
        (fun fl s' => R (.ok (.ret (match fl with | .ret v => v | _ => .none))) s') (fun _ _ => False) { s with heap := h₁, toks := tk }) :
    codeAny (model PySem.Challenge.rw_np0028_01.row.prog w) (Ar dp un gd outer) (.call (.ref f) args) R s :=
  enterCT G hroom ho hcd hbind hkind hnd hco hgen hk fun base p loose mean mg mb h₁ tk cells _ F hN Y B T => h base p loose mean mg mb h₁ tk cells F hN Y B T
end
section
variable {w : World} {outer : List Env} {W : List Addr} {s : Shared} {dp un : Nat} {gd : Option (List Code)} {R : Result → Shared → Prop}
  {name qual : Str} {params : Arguments} {body : PySem.Expr} {scope : Scope} {pm ctv : Value} {cl : List (Str × Addr)} {f c' : Addr} {args : Args} {binds : List (Str × Value)}
theorem enterL (G : Gd w W outer s.heap) (hroom : dp < recursionLimit) (ho : s.heap.get? f = some (kla_obj name qual params body scope cl pm c' ctv)) (hcd : s.heap.CodeRec (.ref c') qual)
    (hbind : bindArgs (kla_fn name qual params body scope cl pm (.ref c') ctv) args = pure binds) (hloc : ∀ y ∈ binds, scope.names.lookup y.1 = some .local)
    (hco : scope.isCoroutine = false) (hgen : scope.isGenerator = false) (hk : scope.kind = .function) (hcell : ∀ x ∈ scope.names, x.2 ≠ .cell)
    (h : ∀ base p loose mean mg mb h₁ tk, Fr (hideAll s.heap W) s.heap.objs.size h₁ (fun y => binds.reverse.lookup y) →
      (∀ news : List (Addr × Obj), (∀ q ∈ news, q.1 ∈ W ∧ s.heap.get? q.1 = some q.2) → News (hideAll s.heap W) s.heap.objs.size h₁ news) →
      Below (Ar dp un gd outer) base outer (hideAll s.heap W) → Top p loose mean mg mb (hideAll s.heap W) →
      wpAny (model PySem.Challenge.rw_np0028_01.row.prog w) ((Ar dp un gd outer).deeper (envX qual scope s.heap.objs.size f (.ref c') cl)) (eval body (envX qual scope s.heap.objs.size f (.ref c') cl))
        (fun v s' => R (.ok (.ret v)) s') (fun _ _ => False) { s with heap := h₁, toks := tk }) :
    codeAny (model PySem.Challenge.rw_np0028_01.row.prog w) (Ar dp un gd outer) (.call (.ref f) args) R s := by
  obtain ⟨base, p, loose, mean, mg, mb, h1, h2, T⟩ := G.ex
  have st : (hideAll s.heap W).StaysIn s.heap := fun b o e => of_hideAll W e
  refine kla_callFunE hroom ho rfl hco hgen rfl hcd ?_
  rw [hbind]
  refine wpAny_pure (wpAny_newFunctionEnv hcell hloc (fun h₁ hns hsb => ⟨(T.nolimit.keeps st).fresh _ hsb, ?_⟩) hk)
  show codeAny _ _ (.expr body (envX qual scope s.heap.objs.size f (.ref c') cl)) _ _
  have hk₁ : ∀ b o, s.heap.get? b = some o → h₁.get? b = some o := fun b o e => hsb.extBut b o (Nat.ne_of_lt (Heap.lt_size e)) (Heap.get?_push_of_some _ e)
  refine kla_codeExpr (wpAny_mono (h base p loose mean mg mb h₁ _ ⟨hns, fun b o e => hk₁ b o (of_hideAll W e), Nat.le_of_eq (hideAll_size _ _)⟩ (fun news hn q hq => ?_) ⟨rfl, h1, h2⟩ T) (fun _ _ y => y) fun _ _ y => y.elim)
  obtain ⟨a, b⟩ := hn q hq
  exact ⟨hk₁ _ _ b, Nat.ne_of_lt (Heap.lt_size b), hideAll_none W a⟩
end
end Mine
end Base2X

section GrpT7X0
open PySem PySem.W PySem.Calls PyProof.Rows
set_option Elab.async false
set_option maxRecDepth 100000
namespace Mine
local macro_rules | `(tactic| k_inst) => `(tactic| exact inst_g (by k_asm) (by k_asm) (by k_asm))
local macro_rules | `(tactic| k_handed) => `(tactic| assumption)
local macro_rules | `(tactic| units_room) => `(tactic| ((try dsimp only); first | exact room1 (by assumption) rfl | exact room0 (by assumption) rfl | exact roomZ (by assumption) | exact room2 (by assumption) rfl | omega))
local macro_rules | `(tactic| walk_at "call builtin:len") => `(tactic| ((with_reducible show wpAny _ _ (call (Value.builtin "len") [Value.ref _]) _ _ _); refine' len_g ?k1 ?k2 ?k3 ?_; (case k2 => assumption); (case k1 => k_asm); (case k3 => omega); intro tk' tk''))
open PySem PySem.W PySem.Calls PyProof.Rows in
theorem rstT7 {M : Model} {A : Around} {env : Env} {Q : Flow → Shared → Prop} {E : Value → Shared → Prop} {s : Shared} (h : Q Flow.next s) : wpAny M A (execs [] env) Q E s := by
  w_top off
  first | (walk1; exact h) | exact wpAny_execs_nil h
section T7X
open PySem PySem.W PySem.Calls PyProof.Rows
set_option Elab.async false
set_option maxRecDepth 100000
local macro_rules | `(tactic| walk_at "call ref") => `(tactic| (
  (with_reducible show wpAny _ _ (call (Value.ref 368) _) _ _ _);
  refine' are_spans_spec ?k1 ?k2 ?h0 ?h1 ?k4 ?k5 ?_; (case h0 => assumption); (case h1 => assumption);
  (case k1 => exact Gd.push0 (by assumption) (by k_asm)); (case k2 => exact lkH (by k_asm) (by assumption)); (case k4 => (try dsimp only); omega); (case k5 => (try dsimp only); omega);
  (intro h' tk' fr'; have F' := after0F (by k_asm) fr'; have N' := after0N (by k_asm) fr'; clear fr'; (try k_sweep); (try dsimp only))))
theorem name_clos {M : Model} {A : Around} {E : Value → Shared → Prop} {s : Shared} {g : Heap} {L a c : Addr} {m : Str → Option Value} {cn : Str} {cs : Scope} {ccd : Value} {cl : List (Str × Addr)} {x : Str} {pos : Pos} {v : Value} {Q : Value → Shared → Prop}
    (F : Fr g L s.heap m) (X : g.IsCell c (some v)) (hc : cl.lookup x = some c) (h : Q v s)
    (hk : cs.kind = .function := by rfl) (hx : (envX cn cs L a ccd cl).kindOf x = some .free := by rfl) (hb : (x == ("__debug__" : Str)) = false := by decide) (hn : (x == ("__classdict__" : Str)) = false := by decide) :
    wpAny M A (eval (.Name x pos) (envX cn cs L a ccd cl)) Q E s := wpAny_Name (wpAny_loadName_free hk hx hc (X.keeps F.keep) h hn) hb
local macro_rules | `(tactic| walk_at "eval Name") => `(tactic| (k_here; k_dflt (refine' name_clos ?F ?X ?c ?_ ?a ?b; (case a => rfl); (case b => rfl); (case F => k_asm); (case c => rfl); (case X => with_reducible assumption); k_whole)))
theorem text_of_cls {d : D} (h : d.cls = 107) : ∃ a cs sp, d = .text a cs sp := by
  cases d
  case text a cs sp => exact ⟨_, _, _, rfl⟩
  case vec a k l => cases k <;> simp [D.cls] at h
  all_goals simp [D.cls] at h
def saS : D → D → Bool
  | .text _ _ sp, .text _ _ sp' => sp == sp'
  | _, _ => false
def TabOk (h : Heap) : Prop := ∃ ps, h.get? 245 = some (tabObj ps) ∧ (ps = #[] ∨ ∃ c' oc vs t, ps = #[rawInt 96, rawInt 32, .ref c'] ∧ c' ≠ 245 ∧ h.get? c' = some oc ∧ oc.data = .fields vs ∧ vs[1]? = some (.str (Str.ofString "equal_including.<locals>.<lambda>") t))
def TabOk2 (h h' : Heap) : Prop := ∃ ps, h'.get? 245 = some (tabObj ps) ∧ (h.get? 245 = some (tabObj ps) ∨ ∃ c' oc vs t, ps = #[rawInt 96, rawInt 32, .ref c'] ∧ h.get? c' = none ∧ h'.get? c' = some oc ∧ oc.data = .fields vs ∧ vs[1]? = some (.str (Str.ofString "equal_including.<locals>.<lambda>") t))
theorem fresh_of {h : Heap} {W : List Addr} {a : Addr} (h0 : (hideAll h W).get? a = none) (n : a ∉ W) : h.get? a = none := by
  cases q : h.get? a with
  | none => rfl
  | some o => rw [hideAll_get W q n] at h0; cases h0
theorem code249 {w : World} {h : Heap} (X : (hd.heap_1 w.params).In h) : CodeHd h 249 245 := by
  have e : ∃ o, (hd.heap_1 w.params).lookup 249 = some o ∧ (o.cls = .type "code" ∧ ∃ vs file tf flags tg inF text tt, o.data = .fields vs ∧ vs[11]? = some (.ref 245) ∧ vs.getD 11 .none = .ref 245 ∧ vs.getD 18 .none = .str file tf ∧
    vs.getD 7 .none = .int flags tg ∧ vs.getD 9 .none = .bool inF ∧ vs.getD 10 .none = .int text tt) := ⟨_, by k_is, rfl, _, _, _, _, _, _, _, _, rfl, rfl, rfl, rfl, rfl, rfl, rfl⟩
  obtain ⟨o, e, hc, vs, file, tf, flags, tg, inF, text, tt, r1, r2, r3, r4, r5, r6, r7⟩ := e
  exact ⟨o, vs, file, tf, flags, tg, inF, text, tt, X _ _ e, hc, r1, r2, r3, r4, r5, r6, r7, by decide⟩
set_option maxHeartbeats 8000000 in
theorem equal_including_spec {w : World} {outer : List Env} {s : Shared} {dp un : Nat} {gd : Option (List Code)} {lk : Addr → Obj → Prop} {d e : D} {v u : Value} {Q E : Value → Shared → Prop}
    (G : Gd w [245] outer s.heap) (hlk : ∀ a o, lk a o → (hideAll s.heap [245]).get? a = some o) (hd : At w lk d v) (he : At w lk e u) (hsz : d.size ≤ 90000) (tab : TabOk s.heap) (hdp : dp + 8 < recursionLimit) (hun : un + 800 < cLine)
    (ret : ∀ h' tk', Frame [245] s.heap h' → TabOk2 s.heap h' → Q (.bool (eqv saS d e)) { s with heap := h', toks := tk' }) :
    wpAny (model PySem.Challenge.rw_np0028_01.row.prog w) (Ar dp un gd outer) (call (.ref 250) [v, u, .ref 368]) Q E s := by
  obtain ⟨ps, tab1, tab2⟩ := tab
  refine wpAny_call ?_
  refine enterC (binds := [(Str.ofString "one", v), (Str.ofString "other", u), (Str.ofString "spans_alike", .ref 368)]) G (by omega) (by k_is) (by k_is) (BindsTo.of_eq rfl) rfl (by decide +kernel) rfl rfl rfl ?_
  intro base p loose mean mg mb h₁ tk₁ cells F hN Y B T
  have X := G.X
  have C := code249 X
  have N := hN [(245, tabObj ps)] (by intro q hq; rw [List.mem_singleton] at hq; subst hq; exact ⟨List.mem_singleton.mpr rfl, tab1⟩)
  have q1 := hd.handed
  have q2 := he.handed
  clear hN B
  k_cells Y
  simp only [List.cons_append, List.nil_append] at N
  try dsimp only
  try k_fold
  have lt245 : @LT.lt Nat _ 245 s.heap.objs.size := Heap.lt_size tab1
  rcases tab2 with rfl | ⟨c', oc, vs, t, rfl, hcn, hc1, hc2, hc3⟩
  · repeat' (first | k_unfold | walk1 | (dsimp only; walk1))
    rename_i f9 c9 oc9 vs9 t9 ct9 H9 _ F9 N9 e1 e2 _ _
    have cellf : ∀ {g' : Heap}, Grow H9 g' → (hideAll g' []).IsCell (s.heap.objs.size + 1) (some (.ref 368)) := fun k => ⟨_, hide_up (k _ _ (News.get N9 (by k_mem))), by assumption⟩
    refine equal_by_spec (sa := saS) (lk := lk) (Gd.push0 G F9) (lkH F9 hlk) hd he hsz ⟨_, _, hide_up (News.get N9 (by k_mem)), rfl⟩ ?_ (by show dp + 1 + 4 < recursionLimit; units_room) (by show un + 3 + 400 < cLine; units_room) ?_
    · intro outer' s' gd' dp' un' d' e' v' u' Q' E' G' hk hc1 hc2 hd' he' k1 k2 ret'
      have hlk' : ∀ a o, lk a o → (hideAll s'.heap []).get? a = some o := fun a o z => hide_up (hk _ _ (F9.keep _ _ (hlk _ _ z)))
      have cell' := cellf hk
      obtain ⟨a', cs', sp1, rfl⟩ := text_of_cls hc1
      obtain ⟨b', cs'', sp2, rfl⟩ := text_of_cls hc2
      have k1' : dp' ≤ dp + 1 + 1 := k1
      have k2' : un' ≤ un + 3 + 200 := k2
      simp only [At] at hd' he'
      obtain ⟨rfl, da, c1, n1, vs1, t1, t2, sv, g1, g2, _, _, _, hs1⟩ := hd'
      obtain ⟨rfl, db, c2, n2, vs2, t3, t4, su, g3, g4, _, _, _, hs2⟩ := he'
      replace g1 := hlk' _ _ g1; replace g2 := hlk' _ _ g2; replace g3 := hlk' _ _ g3; replace g4 := hlk' _ _ g4
      have r1 := hs1.handed
      have r2 := hs2.handed
      have fobj := hk _ _ (News.get N9 List.mem_cons_self)
      have crec : s'.heap.CodeRec (.ref c9) (Str.ofString "equal_including.<locals>.<lambda>") := ⟨c9, oc9, vs9, t9, rfl, hk _ _ (News.get N9 (by k_mem)), e1, e2⟩
      clear F9 N9 F
      try clear N
      refine wpAny_call ?_
      refine enterL (binds := [(Str.ofString "left", .ref a'), (Str.ofString "right", .ref b')]) G' (by omega) fobj crec rfl (locs rfl) rfl rfl rfl (by decide) ?_
      intro base' p' loose' mean' mg' mb' h₁' tk₁' F' hN' B' T'
      have X' := G'.X
      have N' := hN' [] (fun _ hq => nomatch hq)
      clear hN' B' T X C G
      try dsimp only
      try k_fold
      k_steps
      exact ret' _ _ (Frame.of_Fr (by assumption))
    · intro h'' tk'' fr''
      have F'' := after0F F9 fr''
      have N'' := after0N N9 fr''
      refine ret _ _ (Frame.of_Fr F'') ?_
      have ne9 : @Ne Nat c9 245 := by refine neN ?_; omega
      exact ⟨_, News.get N'' (by k_mem), .inr ⟨c9, oc9, vs9, t9, rfl, fresh_of (N'' (c9, oc9) (by k_mem)).2.2 (fun q => ne9 (List.mem_singleton.mp q)), News.get N'' (by k_mem), e1, e2⟩⟩
  · repeat' (first | k_unfold | walk1 | (dsimp only; walk1))
    rename_i f9 _ H9 _ F9 N9 _
    have cellf : ∀ {g' : Heap}, Grow H9 g' → (hideAll g' []).IsCell (s.heap.objs.size + 1) (some (.ref 368)) := fun k => ⟨_, hide_up (k _ _ (News.get N9 (by k_mem))), by assumption⟩
    refine equal_by_spec (sa := saS) (lk := lk) (Gd.push0 G F9) (lkH F9 hlk) hd he hsz ⟨_, _, hide_up (News.get N9 (by k_mem)), rfl⟩ ?_ (by show dp + 1 + 4 < recursionLimit; units_room) (by show un + 3 + 400 < cLine; units_room) ?_
    · intro outer' s' gd' dp' un' d' e' v' u' Q' E' G' hk hx1 hx2 hd' he' k1 k2 ret'
      have hlk' : ∀ a o, lk a o → (hideAll s'.heap []).get? a = some o := fun a o z => hide_up (hk _ _ (F9.keep _ _ (hlk _ _ z)))
      have cell' := cellf hk
      obtain ⟨a', cs', sp1, rfl⟩ := text_of_cls hx1
      obtain ⟨b', cs'', sp2, rfl⟩ := text_of_cls hx2
      have k1' : dp' ≤ dp + 1 + 1 := k1
      have k2' : un' ≤ un + 3 + 200 := k2
      simp only [At] at hd' he'
      obtain ⟨rfl, da, c1, n1, vs1, t1, t2, sv, g1, g2, _, _, _, hs1⟩ := hd'
      obtain ⟨rfl, db, c2, n2, vs2, t3, t4, su, g3, g4, _, _, _, hs2⟩ := he'
      replace g1 := hlk' _ _ g1; replace g2 := hlk' _ _ g2; replace g3 := hlk' _ _ g3; replace g4 := hlk' _ _ g4
      have r1 := hs1.handed
      have r2 := hs2.handed
      have fobj := hk _ _ (News.get N9 List.mem_cons_self)
      have crec : s'.heap.CodeRec (.ref c') (Str.ofString "equal_including.<locals>.<lambda>") := ⟨c', oc, vs, t, rfl, hk _ _ (F9.keep _ _ (hideAll_get _ hc1 (by simpa using hcn))), hc2, hc3⟩
      clear F9 N9 F
      try clear N
      refine wpAny_call ?_
      refine enterL (binds := [(Str.ofString "left", .ref a'), (Str.ofString "right", .ref b')]) G' (by omega) fobj crec rfl (locs rfl) rfl rfl rfl (by decide) ?_
      intro base' p' loose' mean' mg' mb' h₁' tk₁' F' hN' B' T'
      have X' := G'.X
      have N' := hN' [] (fun _ hq => nomatch hq)
      clear hN' B' T X C G
      try dsimp only
      try k_fold
      k_steps
      exact ret' _ _ (Frame.of_Fr (by assumption))
    · intro h'' tk'' fr''
      have F'' := after0F F9 fr''
      have N'' := after0N N9 fr''
      refine ret _ _ (Frame.of_Fr F'') ?_
      exact ⟨_, News.get N'' (by k_mem), .inl tab1⟩
end T7X

open PySem PySem.W PySem.Calls PyProof.Rows in
theorem rstCg {M : Model} {A : Around} {env : Env} {Q : Flow → Shared → Prop} {E : Value → Shared → Prop} {s : Shared} (h : Q Flow.next s) : wpAny M A (execs [] env) Q E s := by
  w_top off
  first | (walk1; exact h) | exact wpAny_execs_nil h
section CgX
open PySem PySem.W PySem.Calls PyProof.Rows PyProof.Rows.LCg
set_option Elab.async false
set_option maxRecDepth 100000
abbrev inEnv (scope : Scope) (env cenv : Env) : Env := { cenv with scope := relabel scope env }
abbrev FrameW (ws : List (Addr × Obj)) (h h' : Heap) : Prop := ∀ b o, b ∉ ws.map (·.1) → h.get? b = some o → h'.get? b = some o
abbrev Lies (h : Heap) (l : List (Addr × Obj)) : Prop := ∀ p ∈ l, h.get? p.1 = some p.2
structure TV (env : Env) (scope : Scope) (cl : List (Str × Addr)) (target : PySem.Expr) (V : Env → Option Value → List (Addr × Obj) → Prop) : Prop where
  new : ∀ {M : Model} {A : Around} (s : Shared) (Q : Env → Shared → Prop) (E : Value → Shared → Prop), (∀ cenv objs h' tk, V cenv none objs → Grow s.heap h' → Born s.heap h' objs → Q cenv { s with heap := h', toks := tk }) →
    wpAny M A (newFunctionEnv scope env.globals cl [] env.qual none .none (some env)) Q E s
  store : ∀ {M : Model} {A : Around} cenv v o objs (s : Shared) (Q : Unit → Shared → Prop) (E : Value → Shared → Prop), V cenv o objs → Lies s.heap objs →
    (∀ h' tk objs', V cenv (some v) objs' → objs'.map (·.1) = objs.map (·.1) → Lies h' objs' → FrameW objs s.heap h' → Q () { s with heap := h', toks := tk }) → wpAny M A (assign target (inEnv scope env cenv) v) Q E s
  loc : ∀ cenv o objs, V cenv o objs → ∃ oC m, (cenv.locals, oC) ∈ objs ∧ NsObj oC m
def VL (env : Env) (scope : Scope) (cl : List (Str × Addr)) (x : Str) (cenv : Env) (o : Option Value) (objs : List (Addr × Obj)) : Prop :=
  ∃ C oC m, inEnv scope env cenv = compEnvC scope cl C env ∧ cenv.locals = C ∧ objs = [(C, oC)] ∧ NsObj oC m ∧ m x = o
def VC (env : Env) (scope : Scope) (cl : List (Str × Addr)) (x : Str) (cenv : Env) (o : Option Value) (objs : List (Addr × Obj)) : Prop :=
  ∃ C oC m c oc, inEnv scope env cenv = compEnvC scope ((x, c) :: cl) C env ∧ cenv.locals = C ∧ objs = [(C, oC), (c, oc)] ∧ @Ne Nat C c ∧ NsObj oC m ∧ oc.data = .cell o
theorem tv_local {env : Env} {scope : Scope} {cl : List (Str × Addr)} {x : Str} {px : Pos} (hcell : ∀ y ∈ scope.names, y.2 ≠ .cell) (hkind : scope.kind = .function) (hx : scope.names.lookup x = some .local) :
    TV env scope cl (.Name x px) (VL env scope cl x) where
  new := fun s Q E h => by
    refine wpAny_newFunctionEnv hcell (by intro y hy; simp at hy) (fun h₁ hns hsb => ?_) hkind
    obtain ⟨oC, e, hoC⟩ := ns_obj hns
    have old : Grow s.heap h₁ := fun b o e => hsb.extBut b o (Nat.ne_of_lt (Heap.lt_size e)) (Heap.get?_push_of_some _ e)
    exact h _ [(s.heap.objs.size, oC)] h₁ _ ⟨_, oC, _, rfl, rfl, rfl, hoC, rfl⟩ old (fun p hp => by rw [List.mem_singleton] at hp; subst hp; exact ⟨e, Heap.get?_none_of_le (Nat.le_refl _)⟩)
  store := fun cenv v o objs s Q E hV hl h => by
    obtain ⟨C, oC, m, he, hC, rfl, hoC, hm⟩ := hV
    rw [he]
    have hn : s.heap.Ns C m := hoC.ns (hl _ List.mem_cons_self)
    refine wpAny_assign_Name (wpAny_storeName_local (env := compEnvC scope cl C env) (lookup_relabel_local hx) hn (fun h₂ hn₂ hs₂ => ?_) (by simp [compEnvC, relabel, hkind]))
    obtain ⟨oC', e', hoC'⟩ := ns_obj hn₂
    refine h h₂ _ [(C, oC')] ⟨C, oC', _, he, hC, rfl, hoC', by simp⟩ rfl (fun p hp => by rw [List.mem_singleton] at hp; subst hp; exact e') fun b o hb e => hs₂.extBut b o (show b ≠ C by simpa using hb) e
  loc := fun cenv o objs hV => by
    obtain ⟨C, oC, m, he, rfl, rfl, hoC, hm⟩ := hV
    exact ⟨oC, m, List.mem_cons_self, hoC⟩
theorem lookup_relabel_cell {env : Env} : ∀ {names : List (Str × NameKind)} {x : Str}, names.lookup x = some .cell →
    (names.map fun (n, k) => if (k == NameKind.free && env.scope.kind == .function && env.kindOf n == some .cell) then (n, NameKind.cell) else (n, k)).lookup x = some .cell
  | [], _, h => by simp at h
  | (n, k) :: r, x, h => by
    have ih := @lookup_relabel_cell env r x
    show List.lookup x ((if (k == NameKind.free && env.scope.kind == .function && env.kindOf n == some .cell) = true then (n, NameKind.cell) else (n, k)) :: _) = _
    cases hx : x == n with
    | true =>
      simp only [List.lookup_cons, hx] at h
      cases h
      simp [List.lookup_cons, hx]
    | false =>
      simp only [List.lookup_cons, hx] at h
      by_cases hc : (k == NameKind.free && env.scope.kind == .function && env.kindOf n == some .cell) = true
      · rw [if_pos hc]; simp only [List.lookup_cons, hx]; exact ih h
      · rw [if_neg hc]; simp only [List.lookup_cons, hx]; exact ih h
theorem tv_cell {env : Env} {scope : Scope} {cl : List (Str × Addr)} {x : Str} {px : Pos} (hkind : scope.kind = .function) (hx : scope.names.lookup x = some .cell)
    (hcf : ∀ n, cellsFrom n scope.names cl = (x, n) :: cl) (hpc : ∀ h, pushCells h scope.names = h.push { cls := .type "cell", data := .cell none }) :
    TV env scope cl (.Name x px) (VC env scope cl x) where
  new := fun s Q E h => by
    simp only [newFunctionEnv, Option.isSome_some, if_true]
    refine wpAny_bind (wpAny_alloc ?_)
    refine wpAny_bind (wpAny_layCells _ (fun name kind cells => by cases hkc : kind == NameKind.cell <;> simp [hkc]) _ _ _ _ ?_)
    rw [hcf, hpc]
    refine wpAny_bind (wpAny_pure (wpAny_pure ?_))
    have z1 : (s.heap.push { cls := .type "dict", data := .dict #[] }).objs.size = s.heap.objs.size + 1 := Heap.size_push ..
    have g1 : ((s.heap.push { cls := .type "dict", data := .dict #[] }).push { cls := .type "cell", data := .cell none }).get? s.heap.objs.size = some { cls := .type "dict", data := .dict #[] } := Heap.get?_push_of_some _ (Heap.get?_push_size _ rfl)
    have g2 : ((s.heap.push { cls := .type "dict", data := .dict #[] }).push { cls := .type "cell", data := .cell none }).get? (s.heap.push { cls := .type "dict", data := .dict #[] }).objs.size = some { cls := .type "cell", data := .cell none } := Heap.get?_push_size _ rfl
    refine h _ [(s.heap.objs.size, { cls := .type "dict", data := .dict #[] }), ((s.heap.push { cls := .type "dict", data := .dict #[] }).objs.size, { cls := .type "cell", data := .cell none })] _ _
      ⟨s.heap.objs.size, _, fun _ => none, _, _, rfl, rfl, rfl, by rw [z1]; exact Nat.ne_of_lt (Nat.lt_succ_self _), ⟨#[], _, rfl, fun e he => by simp at he, fun _ => rfl⟩, rfl⟩
      (fun b o e => Heap.get?_push_of_some _ (Heap.get?_push_of_some _ e)) fun p hp => ?_
    simp only [List.mem_cons, List.not_mem_nil, or_false] at hp
    rcases hp with rfl | rfl
    · exact ⟨g1, Heap.get?_none_of_le (Nat.le_refl _)⟩
    · exact ⟨g2, Heap.get?_none_of_le (by rw [z1]; exact Nat.le_succ _)⟩
  store := fun cenv v o objs s Q E hV hl h => by
    obtain ⟨C, oC, m, c, oc, he, hC, rfl, hne, hoC, hm⟩ := hV
    rw [he]
    have h1 := hl _ List.mem_cons_self
    have h2 := hl (c, oc) (List.mem_cons_of_mem _ List.mem_cons_self)
    refine wpAny_assign_Name (wpAny_storeName_cell (env := compEnvC scope ((x, c) :: cl) C env) (c := c) (v₀ := o) hkind (lookup_relabel_cell hx) (by simp [compEnvC]) ⟨oc, h2, hm⟩ fun h₂ hn₂ hs₂ => ?_)
    obtain ⟨oc', e', hoc'⟩ := hn₂
    refine h h₂ _ [(C, oC), (c, oc')] ⟨C, oC, m, c, oc', he, hC, rfl, hne, hoC, hoc'⟩ rfl (fun p hp => ?_) fun b o hb e => hs₂.extBut b o (fun q => hb (by simp [q])) e
    simp only [List.mem_cons, List.not_mem_nil, or_false] at hp
    rcases hp with rfl | rfl
    · exact hs₂.extBut _ _ hne h1
    · exact e'
  loc := fun cenv o objs hV => by
    obtain ⟨C, oC, m, c, oc, he, rfl, rfl, hne, hoC, hm⟩ := hV
    exact ⟨oC, m, List.mem_cons_self, hoC⟩
abbrev GoodT := Nat → List Value → List (Addr × Obj) → List (Addr × Obj) → Prop
def GTurn (prog : Program) (w : World) (A : Around) (env : Env) (elt : PySem.Expr) (ifs : List PySem.Expr) (scope : Scope) (V : Env → Option Value → List (Addr × Obj) → Prop) (s : Shared) (h₀ : Heap) (L : Addr) (m : Str → Option Value) (ws news : List (Addr × Obj)) (g : Heap)
    (P : Nat → Value → Prop) (n : Nat) (Good : GoodT) : Prop :=
  ∀ i v cenv objs h tk rs nw ws' (E' : Value → Shared → Prop), i < n → P i v → V cenv (some v) objs → FrameW ws g h → Fr h₀ L h m → News h₀ L h (objs ++ (ws' ++ news)) → (∀ p ∈ objs, g.get? p.1 = none) → ws'.map (·.1) = ws.map (·.1) → Good i rs nw ws' → Born g h nw →
    wpAny (model prog w) A (tests ifs (inEnv scope env cenv)) (fun ok s₃ =>
      if ok = true then wpAny (model prog w) A (eval elt (inEnv scope env cenv)) (fun r s₄ => ∃ h' tk' nw' ws'', s₄ = { s with heap := h', toks := tk' } ∧ FrameW ws h h' ∧ Born h h' nw' ∧ ws''.map (·.1) = ws.map (·.1) ∧ Lies h' ws'' ∧ Good (i + 1) (rs ++ [r]) (nw ++ nw') ws'') E' s₃
      else ∃ h' tk' ws'', s₃ = { s with heap := h', toks := tk' } ∧ FrameW ws h h' ∧ ws''.map (·.1) = ws.map (·.1) ∧ Lies h' ws'' ∧ Good (i + 1) rs nw ws'') E' { s with heap := h, toks := tk }
def GFin (RR : Value → Addr → Result → Shared → Prop) (s₂ : Shared) (h₀ : Heap) (L : Addr) (m : Str → Option Value) (ws news : List (Addr × Obj)) (g : Heap) (n : Nat) (Good : GoodT) : Prop :=
  ∀ D C oC mC h' tk' rs nw ws', FrameW ws g h' → h'.get? D = some (lst rs) → g.get? D = none → ws'.map (·.1) = ws.map (·.1) → Lies h' ws' → Good n rs nw ws' → Born g h' nw → (∀ p ∈ nw, p.1 ≠ D ∧ p.1 ≠ C) → h'.get? C = some oC → NsObj oC mC → g.get? C = none → C ≠ D → C ∉ ws.map (·.1) →
    Fr h₀ L h' m → News h₀ L h' (ws' ++ news) → RR (.ref D) C (.ok .next) { s₂ with heap := h', toks := tk' }
def GSrc (prog : Program) (w : World) (A : Around) (env : Env) (elt : PySem.Expr) (ifs : List PySem.Expr) (scope : Scope) (V : Env → Option Value → List (Addr × Obj) → Prop) (RR : Value → Addr → Result → Shared → Prop) (it : Value) (s₂ : Shared) : Prop :=
  ∃ (I : Addr) (fp : List Addr) (n : Nat) (P : Nat → Value → Prop) (St : Nat → Heap → Prop) (g h₀ : Heap) (L : Addr) (m : Str → Option Value) (ws news : List (Addr × Obj)) (Good : GoodT),
    it = .ref I ∧ Walks prog w A I fp [I] n P St ∧ n ≤ sizeLine ∧ St 0 s₂.heap ∧ (∀ i h, St i h → ∀ b ∈ fp, ∃ o, h.get? b = some o) ∧ (∀ b ∈ fp, b ∉ ws.map (·.1)) ∧ Grow g s₂.heap ∧ g.get? I = none ∧
    Fr h₀ L g m ∧ News h₀ L g (ws ++ news) ∧ (∀ p ∈ news, p.1 ∉ ws.map (·.1)) ∧ Good 0 [] [] ws ∧ GTurn prog w A env elt ifs scope V s₂ h₀ L m ws news g P n Good ∧
    GFin RR s₂ h₀ L m ws news g n Good
section
variable {prog : Program} {w : World} {A : Around} {E : Value → Shared → Prop} {s : Shared}
theorem gen_core {elt target iter : PySem.Expr} {ifs : List PySem.Expr} {scope : Scope} {cl : List (Str × Addr)} {pos : Pos} {env : Env} {V : Env → Option Value → List (Addr × Obj) → Prop} {RR : Value → Addr → Result → Shared → Prop} {it : Value} {s₂ : Shared}
    (tv : TV env scope cl target V) (hlet : ∀ it v, letOwnedTupleGo target it v = pure ()) (h₂ : GSrc prog w A env elt ifs scope V RR it s₂) :
    wpAny (model prog w) A (newList []) (fun acc s₃ => wpAny (model prog w) A (newFunctionEnv scope env.globals cl [] env.qual none .none (some env)) (fun cenv s₄ =>
      codeAny (model prog w) A (.compStart (.ListComp elt [⟨target, iter, ifs, 0⟩] scope pos) 0 it acc { cenv with scope := relabel scope env }) (RR acc cenv.locals) s₄) E s₃) E s₂ := by
  obtain ⟨I, fp, n, P, St, g, h₀, L, m, ws, news, Good, rfl, W, hsz, hst, halive, hfpW, hg, hIn, F, N, hnws, G0, turn, fin⟩ := h₂
  refine wpAny_newObj_type ?_
  refine tv.new _ _ _ fun cenv objs h₁ tk₁ hV hgr hborn => ?_
  dsimp only at hgr hborn ⊢
  generalize hD : s₂.heap.objs.size = D at *
  have hDn : s₂.heap.get? D = none := by rw [← hD]; exact Heap.get?_none_of_le (Nat.le_refl _)
  have hDo : (s₂.heap.push { cls := .type "list", dict := none, data := .seq ([] : List Value).toArray }).get? D = some (lst []) := by rw [← hD]; exact Heap.get?_push_size _ rfl
  have old : Grow s₂.heap h₁ := fun b o e => hgr b o (Heap.get?_push_of_some _ e)
  have hacc : h₁.get? D = some (lst []) := hgr _ _ hDo
  have ne_of : ∀ {c o d} {h : Heap}, h.get? c = some o → h.get? d = none → c ≠ d := fun e n q => by rw [q, n] at e; cases e
  have hobn : ∀ p ∈ objs, s₂.heap.get? p.1 = none := fun p hp => by
    cases e : s₂.heap.get? p.1 with
    | none => rfl
    | some o => have := (hborn p hp).2; rw [Heap.get?_push_of_some _ e] at this; cases this
  have hobD : ∀ p ∈ objs, p.1 ≠ D := fun p hp q => by have := (hborn p hp).2; rw [q, hDo] at this; cases this
  have hst₁ : St 0 h₁ := W.frame _ _ _ hst fun b _ o e => old b o e
  have hIf : I ∈ fp := W.sub I (List.mem_singleton.mpr rfl)
  have fpD : ∀ b ∈ fp, b ≠ D := fun b hb => by obtain ⟨o, e⟩ := halive _ _ hst b hb; exact ne_of e hDn
  have fpO : ∀ b ∈ fp, b ∉ objs.map (·.1) := fun b hb q => by
    obtain ⟨o, e⟩ := halive _ _ hst b hb
    obtain ⟨p, hp, rfl⟩ := List.mem_map.mp q
    rw [hobn p hp] at e; cases e
  have gne : ∀ {b o}, g.get? b = some o → b ≠ I ∧ b ∉ objs.map (·.1) ∧ b ≠ D := fun {b o} e => by
    refine ⟨ne_of e hIn, fun q => ?_, fun q => ?_⟩
    · obtain ⟨p, hp, rfl⟩ := List.mem_map.mp q
      have := hg _ _ e; rw [hobn p hp] at this; cases this
    · have := hg _ _ e; rw [q, hDn] at this; cases this
  have gwn : ∀ p ∈ ws, ∃ o, g.get? p.1 = some o := fun p hp => ⟨_, (N p (List.mem_append_left _ hp)).1⟩
  have gws : ∀ b ∈ ws.map (·.1), ∃ o, g.get? b = some o := fun b hb => by obtain ⟨p, hp, rfl⟩ := List.mem_map.mp hb; exact gwn p hp
  have hobg : ∀ p ∈ objs, g.get? p.1 = none := fun p hp => by
    cases e : g.get? p.1 with
    | none => rfl
    | some o => exact absurd (List.mem_map_of_mem hp) (gne e).2.1
  have hDg : g.get? D = none := by
    cases e : g.get? D with
    | none => rfl
    | some o => exact absurd rfl (gne e).2.2
  have hDW : D ∉ ws.map (·.1) := fun q => by obtain ⟨o, e⟩ := gws _ q; rw [hDg] at e; cases e
  have hOW : ∀ p ∈ objs, p.1 ∉ ws.map (·.1) := fun p hp q => by obtain ⟨o, e⟩ := gws _ q; rw [hobg p hp] at e; cases e
  obtain ⟨oL, esL, epL, hL, rL⟩ := F.ns
  have hLW : L ∉ ws.map (·.1) := fun q => by obtain ⟨p, hp, e⟩ := List.mem_map.mp q; exact (N p (List.mem_append_left _ hp)).2.1 e
  have h0W : ∀ b o, h₀.get? b = some o → b ∉ ws.map (·.1) := fun b o e q => by obtain ⟨p, hp, rfl⟩ := List.mem_map.mp q; rw [(N p (List.mem_append_left _ hp)).2.2] at e; cases e
  have FrG : ∀ {h : Heap}, FrameW ws g h → Fr h₀ L h m := fun k => ⟨⟨oL, esL, epL, k _ _ hLW hL, rL⟩, fun b o e => k _ _ (h0W b o e) (F.keep _ _ e), F.above⟩
  have old0 : ∀ {b}, g.get? b = none → h₀.get? b = none := fun {b} e => by cases q : h₀.get? b with | none => rfl | some o => rw [F.keep _ _ q] at e; cases e
  have NewsG : ∀ {h : Heap} {objs' ws' : List (Addr × Obj)}, FrameW ws g h → objs'.map (·.1) = objs.map (·.1) → ws'.map (·.1) = ws.map (·.1) → Lies h objs' → Lies h ws' → News h₀ L h (objs' ++ (ws' ++ news)) := fun {h objs' ws'} k e1 e2 l1 l2 p hp => by
    rcases List.mem_append.mp hp with hp | hp
    · have q : p.1 ∈ objs.map (·.1) := e1 ▸ List.mem_map_of_mem hp
      obtain ⟨p', hp', e⟩ := List.mem_map.mp q
      refine ⟨l1 p hp, fun z => ?_, ?_⟩
      · have := hobg p' hp'; rw [e, z, hL] at this; cases this
      · rw [← e]; exact old0 (hobg p' hp')
    rcases List.mem_append.mp hp with hp | hp
    · have q : p.1 ∈ ws.map (·.1) := e2 ▸ List.mem_map_of_mem hp
      obtain ⟨p', hp', e⟩ := List.mem_map.mp q
      have z := (N p' (List.mem_append_left _ hp')).2
      rw [e] at z
      exact ⟨l2 p hp, z⟩
    · have z := N p (List.mem_append_right _ hp)
      exact ⟨k _ _ (hnws p hp) z.1, z.2⟩
  have loop : ∀ s₃ : Shared, s₃ = { s₂ with heap := h₁, toks := tk₁ } →
      codeAny (model prog w) A (.compLoop (.ListComp elt [⟨target, iter, ifs, 0⟩] scope pos) 0 (.ref I) (.ref D) (inEnv scope env cenv)) (RR (.ref D) cenv.locals) s₃ := by
    rintro s₃ rfl
    refine cz_loop
      (fun k s' => ∃ h' tk i rs o objs' nw ws', s' = { s₂ with heap := h', toks := tk } ∧ i ≤ n ∧ k = n + 1 - i ∧ rs.length ≤ i ∧ St i h' ∧ V cenv o objs' ∧ objs'.map (·.1) = objs.map (·.1) ∧ Lies h' objs' ∧ FrameW ws g h' ∧
        h'.get? D = some (lst rs) ∧ ws'.map (·.1) = ws.map (·.1) ∧ Lies h' ws' ∧ Good i rs nw ws' ∧ Born g h' nw ∧ (∀ p ∈ nw, p.1 ∉ fp ∧ p.1 ∉ objs.map (·.1) ∧ p.1 ≠ D ∧ p.1 ∉ ws.map (·.1))) ?_ (n + 1)
      ⟨h₁, _, 0, [], none, objs, [], ws, rfl, Nat.zero_le _, rfl, Nat.le_refl _, hst₁, hV, rfl, fun p hp => (hborn p hp).1, fun b o _ e => old b o (hg b o e), hacc, rfl, fun p hp => old _ _ (hg _ _ (N p (List.mem_append_left _ hp)).1), G0, fun p hp => (nomatch hp), fun p hp => (nomatch hp)⟩
    rintro k s' ⟨h', tk, i, rs, o, objs', nw, ws', rfl, hi, rfl, hrl, hst', hV', hom, hol, hfg, hD', hwm, hwl, hG, hB, hoff⟩
    have ob' : ∀ {b}, b ∉ objs.map (·.1) → b ∉ objs'.map (·.1) := fun h => hom ▸ h
    by_cases hlt : i < n
    · refine W.item i _ _ _ hlt hst' fun v h₂ tk₂ hPv hst₂ hk₂ => ?_
      have up₂ : ∀ b o, b ≠ I → h'.get? b = some o → h₂.get? b = some o := fun b o hb e => hk₂ b o (by simpa using hb) e
      refine wpAny_of_eq (hlet _ _) ?_
      have objI : ∀ p ∈ objs', p.1 ≠ I := fun p hp q => fpO I hIf (by rw [← hom, ← q]; exact List.mem_map_of_mem hp)
      refine tv.store cenv v o objs' _ _ _ hV' (fun p hp => up₂ _ _ (objI p hp) (hol p hp)) fun h₃ tk₃ objs₃ hV₃ hom₃ hol₃ hf₃ => ?_
      dsimp only at hf₃
      have up₃ : ∀ b o, b ≠ I → b ∉ objs.map (·.1) → h'.get? b = some o → h₃.get? b = some o := fun b o h1 h2 e => hf₃ b o (ob' h2) (up₂ b o h1 e)
      have hst₃ : St (i + 1) h₃ := W.frame _ _ _ hst₂ fun b hb o e => hf₃ b o (ob' (fpO b hb)) e
      have hom₃' : objs₃.map (·.1) = objs.map (·.1) := hom₃.trans hom
      have hfg₃ : FrameW ws g h₃ := fun b o hb e => up₃ b o (gne e).1 (gne e).2.1 (hfg b o hb e)
      have hwI : ∀ b ∈ ws.map (·.1), b ≠ I ∧ b ∉ objs.map (·.1) ∧ b ≠ D := fun b hb => by obtain ⟨o, e⟩ := gws b hb; exact gne e
      have hwl₃ : Lies h₃ ws' := fun p hp => by
        have q := hwI p.1 (hwm ▸ List.mem_map_of_mem hp)
        exact up₃ _ _ q.1 q.2.1 (hwl p hp)
      have hD₃ : h₃.get? D = some (lst rs) := up₃ _ _ (Ne.symm (fpD I hIf)) (fun q => by obtain ⟨p, hp, e⟩ := List.mem_map.mp q; exact hobD p hp e) hD'
      have hB₃ : ∀ p ∈ nw, h₃.get? p.1 = some p.2 := fun p hp => up₃ _ _ (fun q => (hoff p hp).1 (q ▸ hIf)) (hoff p hp).2.1 (hB p hp).1
      have hDO : D ∉ objs.map (·.1) := fun q => by obtain ⟨p, hp, e⟩ := List.mem_map.mp q; exact hobD p hp e
      have fin' : ∀ (rs' : List Value) (nw' ws₅ : List (Addr × Obj)) (h₅ : Heap) (tk₅ : Nat), rs'.length ≤ i + 1 → FrameW ws g h₅ → St (i + 1) h₅ → Lies h₅ objs₃ → h₅.get? D = some (lst rs') → ws₅.map (·.1) = ws.map (·.1) → Lies h₅ ws₅ → Good (i + 1) rs' nw' ws₅ → Born g h₅ nw' →
          (∀ p ∈ nw', p.1 ∉ fp ∧ p.1 ∉ objs.map (·.1) ∧ p.1 ≠ D ∧ p.1 ∉ ws.map (·.1)) →
          ∃ q', q' < n + 1 - i ∧ (∃ h' tk i rs o objs' nw ws', ({ s₂ with heap := h₅, toks := tk₅ } : Shared) = { s₂ with heap := h', toks := tk } ∧ i ≤ n ∧ q' = n + 1 - i ∧ rs.length ≤ i ∧ St i h' ∧ V cenv o objs' ∧ objs'.map (·.1) = objs.map (·.1) ∧ Lies h' objs' ∧ FrameW ws g h' ∧
        h'.get? D = some (lst rs) ∧ ws'.map (·.1) = ws.map (·.1) ∧ Lies h' ws' ∧ Good i rs nw ws' ∧ Born g h' nw ∧ (∀ p ∈ nw, p.1 ∉ fp ∧ p.1 ∉ objs.map (·.1) ∧ p.1 ≠ D ∧ p.1 ∉ ws.map (·.1))) :=
        fun rs' nw' ws₅ h₅ tk₅ a1 a2 a3 a4 a5 a6 a7 a8 a9 a10 => ⟨n + 1 - (i + 1), by omega, h₅, tk₅, i + 1, rs', _, objs₃, nw', ws₅, rfl, hlt, rfl, a1, a3, hV₃, hom₃', a4, a2, a5, a6, a7, a8, a9, a10⟩
      have objW : ∀ p ∈ objs₃, p.1 ∉ ws.map (·.1) ∧ g.get? p.1 = none ∧ p.1 ≠ D := fun p hp => by
        have q : p.1 ∈ objs.map (·.1) := hom₃' ▸ List.mem_map_of_mem hp
        obtain ⟨p', hp', e⟩ := List.mem_map.mp q
        rw [← e]
        exact ⟨hOW p' hp', hobg p' hp', hobD p' hp'⟩
      refine wpAny_mono (turn i v cenv objs₃ h₃ tk₃ rs nw ws' _ hlt hPv hV₃ hfg₃ (FrG hfg₃) (NewsG hfg₃ hom₃' hwm hol₃ hwl₃) (fun p hp => (objW p hp).2.1) hwm hG (fun p hp => ⟨hB₃ p hp, (hB p hp).2⟩)) (fun ok s₅ h₅ => ?_) fun _ _ e => e
      cases ok with
      | false =>
        simp only [Bool.false_eq_true, if_false] at h₅ ⊢
        obtain ⟨h₅, tk₅, ws₅, rfl, k₅, m₅, l₅, G₅⟩ := h₅
        exact fin' rs nw ws₅ h₅ tk₅ (Nat.le_succ_of_le hrl) (fun b o hb e => k₅ b o hb (hfg₃ b o hb e)) (W.frame _ _ _ hst₃ fun b hb o e => k₅ b o (hfpW b hb) e) (fun p hp => k₅ _ _ (objW p hp).1 (hol₃ p hp)) (k₅ _ _ hDW hD₃) m₅ l₅ G₅
          (fun p hp => ⟨k₅ _ _ (hoff p hp).2.2.2 (hB₃ p hp), (hB p hp).2⟩) hoff
      | true =>
        simp only [if_true] at h₅ ⊢
        refine wpAny_mono h₅ (fun y s₆ h₆ => ?_) fun _ _ e => e
        obtain ⟨h₅, tk₅, nw', ws₅, rfl, k₅, B₅, m₅, l₅, G₅⟩ := h₆
        have zD := k₅ _ _ hDW hD₃
        have ni : ∀ p ∈ nw', ∀ c o, h₃.get? c = some o → p.1 ≠ c := fun p hp c o e q => by rw [← q, (B₅ p hp).2] at e; cases e
        have off' : ∀ p ∈ nw', p.1 ∉ fp ∧ p.1 ∉ objs.map (·.1) ∧ p.1 ≠ D ∧ p.1 ∉ ws.map (·.1) := fun p hp => by
          refine ⟨fun q => ?_, fun q => ?_, ni p hp _ _ hD₃, fun q => ?_⟩
          · obtain ⟨o, e⟩ := halive _ _ hst₃ _ q; exact ni p hp _ o e rfl
          · rw [← hom₃'] at q; obtain ⟨p', hp', e⟩ := List.mem_map.mp q; exact ni p hp _ _ (hol₃ p' hp') e.symm
          · rw [← hwm] at q; obtain ⟨p', hp', e⟩ := List.mem_map.mp q; exact ni p hp _ _ (hwl₃ p' hp') e.symm
        refine append_at (hsz := by show rs.toArray.size ≤ sizeLine; rw [List.size_toArray]; omega) zD fun h₆ hs₆ hD₆ => ?_
        refine fin' (rs ++ [y]) (nw ++ nw') ws₅ h₆ _ (by rw [List.length_append, List.length_singleton]; omega) (fun b o hb e => hs₆.extBut b o (gne e).2.2 (k₅ b o hb (hfg₃ b o hb e)))
          (W.frame _ _ _ hst₃ fun b hb o e => hs₆.extBut b o (fpD b hb) (k₅ b o (hfpW b hb) e)) (fun p hp => hs₆.extBut _ _ (objW p hp).2.2 (k₅ _ _ (objW p hp).1 (hol₃ p hp))) (hD₆.trans (congrArg some (lst_snoc rs y))) m₅
          (fun p hp => hs₆.extBut _ _ (hwI p.1 (m₅ ▸ List.mem_map_of_mem hp)).2.2 (l₅ p hp)) G₅ (fun p hp => ?_) (fun p hp => ?_)
        · rcases List.mem_append.mp hp with hp | hp
          · exact ⟨hs₆.extBut _ _ (hoff p hp).2.2.1 (k₅ _ _ (hoff p hp).2.2.2 (hB₃ p hp)), (hB p hp).2⟩
          · refine ⟨hs₆.extBut _ _ (off' p hp).2.2.1 (B₅ p hp).1, ?_⟩
            cases e : g.get? p.1 with
            | none => rfl
            | some o => exact absurd rfl (ni p hp _ o (hfg₃ _ _ (off' p hp).2.2.2 e))
        · rcases List.mem_append.mp hp with hp | hp
          · exact hoff p hp
          · exact off' p hp
    · have hin : i = n := by omega
      subst hin
      refine W.done _ _ _ hst' fun h₂ tk₂ hk₂ => ?_
      have up₂ : ∀ b o, b ≠ I → h'.get? b = some o → h₂.get? b = some o := fun b o hb e => hk₂ b o (by simpa using hb) e
      obtain ⟨oC, mC, hmC, hoC⟩ := tv.loc _ _ _ hV'
      have hCI : cenv.locals ≠ I := fun q => fpO I hIf (by rw [← hom, ← q]; exact List.mem_map_of_mem (f := (·.1)) hmC)
      have hCo : cenv.locals ∈ objs.map (·.1) := by rw [← hom]; exact List.mem_map_of_mem (f := (·.1)) hmC
      have hCD : cenv.locals ≠ D := fun q => by obtain ⟨p, hp, e⟩ := List.mem_map.mp hCo; exact hobD p hp (e.trans q)
      have hwI : ∀ b ∈ ws.map (·.1), b ≠ I ∧ b ∉ objs.map (·.1) ∧ b ≠ D := fun b hb => by obtain ⟨o, e⟩ := gws b hb; exact gne e
      have hfg₂ : FrameW ws g h₂ := fun b o hb e => up₂ b o (gne e).1 (hfg b o hb e)
      have hwl₂ : Lies h₂ ws' := fun p hp => up₂ _ _ (hwI p.1 (hwm ▸ List.mem_map_of_mem hp)).1 (hwl p hp)
      have hCg : g.get? cenv.locals = none := by obtain ⟨p, hp, e⟩ := List.mem_map.mp hCo; rw [← e]; exact hobg p hp
      have hCW : cenv.locals ∉ ws.map (·.1) := by obtain ⟨p, hp, e⟩ := List.mem_map.mp hCo; rw [← e]; exact hOW p hp
      refine fin D cenv.locals oC mC h₂ tk₂ rs nw ws' hfg₂ (up₂ _ _ (Ne.symm (fpD I hIf)) hD') hDg hwm hwl₂ hG (fun p hp => ⟨up₂ _ _ (fun q => (hoff p hp).1 (q ▸ hIf)) (hB p hp).1, (hB p hp).2⟩)
        (fun p hp => ⟨(hoff p hp).2.2.1, fun q => (hoff p hp).2.1 (by rw [q]; exact hCo)⟩) (up₂ _ _ hCI (hol _ hmC)) hoC hCg hCD hCW (FrG hfg₂) ?_
      have := NewsG (objs' := objs') hfg₂ hom hwm (fun p hp => up₂ _ _ (fun q => fpO I hIf (by rw [← hom, ← q]; exact List.mem_map_of_mem hp)) (hol p hp)) hwl₂
      exact fun p hp => this p (List.mem_append_right _ hp)
  exact codeAny_compStart_list (loop _ rfl) (W.self 0 _ _ _ hst₁ (loop _ rfl))
theorem GFin.plain {Q : Value → Shared → Prop} {s₂ : Shared} {h₀ : Heap} {L : Addr} {m : Str → Option Value} {ws news : List (Addr × Obj)} {g : Heap} {n : Nat} {Good : GoodT}
    (h : ∀ D h' tk' rs nw ws', FrameW ws g h' → h'.get? D = some (lst rs) → g.get? D = none → ws'.map (·.1) = ws.map (·.1) → Lies h' ws' → Good n rs nw ws' → Born g h' nw → (∀ p ∈ nw, p.1 ≠ D) → Q (.ref D) { s₂ with heap := h', toks := tk' }) :
    GFin (compPost (model prog w) A E none Q) s₂ h₀ L m ws news g n Good := by
  intro D C oC mC h' tk' rs nw ws' a1 a2 a3 a4 a5 a6 a7 a8 a9 a10 a11 a12 a13 a14 a15
  refine ⟨mC, a10.ns a9, fun h'' hs'' => ?_⟩
  refine h D h'' tk' rs nw ws' (fun b o hb e => hs''.extBut b o (fun q => by rw [q, a11] at e; cases e) (a1 b o hb e)) (hs''.extBut _ _ (Ne.symm a12) a2) a3 a4 (fun p hp => hs''.extBut _ _ (fun q => a13 (by rw [← q, ← a4]; exact List.mem_map_of_mem hp)) (a5 p hp)) a6
    (fun p hp => ⟨hs''.extBut _ _ (a8 p hp).2 (a7 p hp).1, (a7 p hp).2⟩) (fun p hp => (a8 p hp).1)
theorem GFin.store {Q : Shared → Prop} {s₂ : Shared} {h₀ : Heap} {m : Str → Option Value} {ws news : List (Addr × Obj)} {g : Heap} {n : Nat} {Good : GoodT} {env : Env} {y : Str} {py : Pos} (F : Fr h₀ env.locals g m) (hnws : ∀ p ∈ news, p.1 ∉ ws.map (·.1)) (NG : News h₀ env.locals g (ws ++ news))
    (hy : env.kindOf y = some .local) (hp : (env.scope.kind == .class || (env.scope.kind == .module && env.locals != env.globals)) = false)
    (h : ∀ D h' tk' rs nw ws', h'.get? D = some (lst rs) → g.get? D = none → ws'.map (·.1) = ws.map (·.1) → Good n rs nw ws' → Born g h' nw → (∀ p ∈ nw, p.1 ≠ D) →
      Fr h₀ env.locals h' (fun z => if z = y then some (.ref D) else m z) → News h₀ env.locals h' (ws' ++ news) → Q { s₂ with heap := h', toks := tk' }) :
    GFin (compPost (model prog w) A E (some (assign (.Name y py) env)) (fun _ s' => Q s')) s₂ h₀ env.locals m ws news g n Good := by
  intro D C oC mC h' tk' rs nw ws' a1 a2 a3 a4 a5 a6 a7 a8 a9 a10 a11 a12 a13 F' N'
  obtain ⟨oL, esL, epL, hL, rL⟩ := F.ns
  have hCL : C ≠ env.locals := fun q => by rw [q, hL] at a11; cases a11
  have hLg : h₀.get? env.locals = none := Heap.get?_none_of_le F'.above
  show wpAny _ A (assign (.Name y py) env (.ref D)) _ _ _
  refine wpAny_assign_Name (wpAny_storeName_local hy F'.ns (fun h₂ hn₂ hs₂ => ?_) hp)
  have hDL : D ≠ env.locals := fun q => by rw [q, hL] at a3; cases a3
  have hC0 : h₀.get? C = none := by cases q : h₀.get? C with | none => rfl | some o => rw [F.keep _ _ q] at a11; cases a11
  have F₂ : Fr h₀ env.locals h₂ (fun z => if z = y then some (.ref D) else m z) := ⟨hn₂, fun b o e => hs₂.extBut b o (fun q => by rw [q, hLg] at e; cases e) (F'.keep b o e), F'.above⟩
  refine ⟨mC, (a10.ns a9).sameBut hs₂ hCL, fun h'' hs'' => ?_⟩
  have nwL : ∀ p ∈ nw, p.1 ≠ env.locals := fun p hp q => by have := (a7 p hp).2; rw [q, hL] at this; cases this
  refine h D h'' _ rs nw ws' (hs''.extBut _ _ (Ne.symm a12) (hs₂.extBut _ _ hDL a2)) a3 a4 a6 (fun p hp => ⟨hs''.extBut _ _ (a8 p hp).2 (hs₂.extBut _ _ (nwL p hp) (a7 p hp).1), (a7 p hp).2⟩) (fun p hp => (a8 p hp).1) (F₂.change hs'' hCL hC0) fun p hp => ?_
  have z := N' p hp
  refine ⟨hs''.extBut _ _ (fun q => ?_) (hs₂.extBut _ _ z.2.1 z.1), z.2⟩
  rcases List.mem_append.mp hp with hp | hp
  · exact a13 (by rw [← q, ← a4]; exact List.mem_map_of_mem hp)
  · have := (NG p (List.mem_append_right _ hp)).1; rw [q, a11] at this; cases this
theorem comp_gen {elt target iter : PySem.Expr} {ifs : List PySem.Expr} {scope : Scope} {cl : List (Str × Addr)} {pos : Pos} {env : Env} {V : Env → Option Value → List (Addr × Obj) → Prop} {Q : Value → Shared → Prop}
    (tv : TV env scope cl target V) (hclos : closureFor scope env = pure cl) (hkind : scope.kind = .function)
    (hnames : ∀ y ∈ scope.names, y.2 = .local → scope.names.lookup y.1 = some .local) (hs : ∀ x, foldedSetIterable iter env x = pure x) (hlet : ∀ it v, letOwnedTupleGo target it v = pure ())
    (h : wpAny (model prog w) A (eval iter env) (fun xv s₁ => wpAny (model prog w) A (pyIter xv) (GSrc prog w A env elt ifs scope V (compPost (model prog w) A E none Q)) E s₁) E s) :
    wpAny (model prog w) A (eval (.ListComp elt [⟨target, iter, ifs, 0⟩] scope pos) env) Q E s := by
  rw [eval_ListComp]
  exact wpAny_comprehension_free (use := none) rfl hs hclos hkind hnames (wpAny_mono h (fun xv s₁ h₁ => wpAny_mono h₁ (fun it s₂ h₂ => gen_core tv hlet h₂) fun _ _ e => e) fun _ _ e => e)
theorem comp_use {elt target iter : PySem.Expr} {ifs : List PySem.Expr} {scope : Scope} {cl : List (Str × Addr)} {pos spos py : Pos} {y : Str} {env : Env} {V : Env → Option Value → List (Addr × Obj) → Prop} {Q : Flow → Shared → Prop}
    (hsw : swapsWith (.ListComp elt [⟨target, iter, ifs, 0⟩] scope pos) (some (.Name y py)) spos.line env = pure true)
    (tv : TV env scope cl target V) (hclos : closureFor scope env = pure cl) (hkind : scope.kind = .function)
    (hnames : ∀ y ∈ scope.names, y.2 = .local → scope.names.lookup y.1 = some .local) (hs : ∀ x, foldedSetIterable iter env x = pure x) (hlet : ∀ it v, letOwnedTupleGo target it v = pure ())
    (h : wpAny (model prog w) A (eval iter env) (fun xv s₁ => wpAny (model prog w) A (pyIter xv) (GSrc prog w A env elt ifs scope V (compPost (model prog w) A E (some (assign (.Name y py) env)) (fun _ s' => Q .next s'))) E s₁) E s) :
    wpAny (model prog w) A (exec (.Assign [.Name y py] (.ListComp elt [⟨target, iter, ifs, 0⟩] scope pos) spos) env) Q E s := by
  rw [exec_Assign_Name_used _ _ _ _ hsw]
  refine wpAny_bind (wpAny_standAt (wpAny_bind ?_))
  show wpAny _ A (do let _ ← comprehension (.ListComp elt [⟨target, iter, ifs, 0⟩] scope pos) scope env _ (newList []) false (eval iter env) (some (assign (.Name y py) env))) _ _ s
  refine wpAny_bind (wpAny_mono (wpAny_comprehension_free (use := some (assign (.Name y py) env)) (Q := fun _ s' => Q .next s') rfl hs hclos hkind hnames (wpAny_mono h (fun xv s₁ h₁ => wpAny_mono h₁ (fun it s₂ h₂ => gen_core tv hlet h₂) fun _ _ e => e) fun _ _ e => e))
    (fun _ s' hq => wpAny_pure (wpAny_pure hq)) fun _ _ e => e)
theorem gsrc_tuple {env : Env} {elt : PySem.Expr} {ifs : List PySem.Expr} {scope : Scope} {V : Env → Option Value → List (Addr × Obj) → Prop} {RR : Value → Addr → Result → Shared → Prop} {ax : Addr} {items : Array Value} {h₀ : Heap} {L : Addr} {m : Str → Option Value} {ws news : List (Addr × Obj)} (Good : GoodT)
    (hh : A.handled = none) (ht : s.heap.IsTuple ax items) (hsz : items.size ≤ sizeLine) (haw : ax ∉ ws.map (·.1)) (F : Fr h₀ L s.heap m) (N : News h₀ L s.heap (ws ++ news)) (hnws : ∀ p ∈ news, p.1 ∉ ws.map (·.1)) (G0 : Good 0 [] [] ws)
    (turn : ∀ h, GTurn prog w A env elt ifs scope V { s with heap := h } h₀ L m ws news s.heap (fun i v => items[i]? = some v) items.size Good)
    (fin : ∀ h, GFin RR { s with heap := h } h₀ L m ws news s.heap items.size Good) : wpAny (model prog w) A (pyIter (.ref ax)) (GSrc prog w A env elt ifs scope V RR) E s := by
  refine wpAny_pyIter_tuple ht ?_
  have lt : ax < s.heap.objs.size := by obtain ⟨_, e, _⟩ := ht; exact Heap.lt_size e
  have up : Grow s.heap (s.heap.push { cls := .type "tuple_iterator", data := .fields #[.ref ax, .int 0 0] }) := fun b o e => Heap.get?_push_of_some _ e
  refine ⟨_, _, _, _, _, s.heap, h₀, L, m, ws, news, Good, rfl, Walks.tuple hh s.heap.objs.size ax (Nat.ne_of_lt lt) items, hsz, ⟨⟨_, Heap.get?_push_size _ rfl, rfl, rfl⟩, ht.push _⟩, ?_, ?_, up, Heap.get?_none_of_le (Nat.le_refl _), F, N, hnws, G0, turn _, fin _⟩
  · rintro i h ⟨⟨o, e, _⟩, ⟨o', e', _⟩⟩ b hb
    rcases List.mem_cons.mp hb with rfl | hb
    · exact ⟨o, e⟩
    · rw [List.mem_singleton.mp hb]; exact ⟨o', e'⟩
  · intro b hb q
    rcases List.mem_cons.mp hb with rfl | hb
    · obtain ⟨p, hp, e⟩ := List.mem_map.mp q
      have := Heap.lt_size (N p (List.mem_append_left _ hp)).1
      rw [e] at this; exact Nat.lt_irrefl _ this
    · rw [List.mem_singleton.mp hb] at q; exact haw q
end
end CgX

open PySem PySem.W PySem.Calls PyProof.Rows in
theorem rstT8 {M : Model} {A : Around} {env : Env} {Q : Flow → Shared → Prop} {E : Value → Shared → Prop} {s : Shared} (h : Q Flow.next s) : wpAny M A (execs [] env) Q E s := by
  w_top off
  first | (walk1; exact h) | exact wpAny_execs_nil h
section T8X
open PySem PySem.W PySem.Calls PyProof.Rows
set_option Elab.async false
set_option maxRecDepth 100000
open PyProof.Rows.LCg
local macro_rules | `(tactic| walk_at "call builtin:isinstance") => `(tactic| ((with_reducible show wpAny _ _ (call (Value.builtin _) [_, _]) _ _ _); (first | refine' isi_sym ?k1 ?k2 ?k3 ?k4 ?_ | refine' isi_cons ?k1 ?k2 ?k3 ?k4 ?_ | refine' isi_text ?k1 ?k2 ?k3 ?k4 ?_ | refine' isi_vec ?k1 ?k2 ?k3 ?k4 ?_ | refine' isi_bc ?k1 ?k2 ?k3 ?k4 ?_ | refine' isi_opaque ?k1 ?k2 ?k3 ?k4 ?_ | refine' isi_int ?k1 ?k2 ?k3 ?k4 ?_); (case k4 => assumption); (case k1 => k_asm); (case k2 => assumption); (case k3 => assumption); intro tk'))
mutual
def alike (b : Bool) : D → D → Bool
  | .int i, .int j => i == j
  | .cons _ x y, .cons _ x' y' => alike b x x' && alike b y y'
  | .text a cs sp, .text a' cs' sp' => decide (cs = cs') && (a == a' || (!b || sp == sp'))
  | .vec _ k l, .vec _ k' r => k == k' && (decide (l.len = r.len) && alikes b l r)
  | .sym a, e => (D.sym a).same e
  | d, .sym a => d.same (.sym a)
  | _, _ => false
def alikes (b : Bool) : DL → DL → Bool
  | .cons d l, .cons e r => alike b d e && alikes b l r
  | .nil, .nil => true
  | _, _ => false
end
mutual
def D.depth : D → Nat
  | .cons _ x y => max x.depth y.depth + 1
  | .vec _ _ l => l.depth + 1
  | _ => 0
def DL.depth : DL → Nat
  | .nil => 0
  | .cons d l => max d.depth l.depth
end
def kl (d : D) : List Value := [.bool (d.cls == 85), .bool (d.cls == 107), .bool (d.cls == 128), .bool (d.cls == 149)]
theorem news_three {g h h' : Heap} {L D a c : Addr} {m : Str → Option Value} {ys xs zs : List Value} {ws news : List (Addr × Obj)} (F : Fr g L h m) (N : News g L h' (ws ++ news)) (hD : h'.get? D = some (lst ys)) (hDn : h.get? D = none) (hB : Born h h' [(a, lst xs), (c, lst zs)]) :
    News g L h' ((D, lst ys) :: (a, lst xs) :: (c, lst zs) :: news) := by
  have key : ∀ a o, h'.get? a = some o → h.get? a = none → h'.get? a = some o ∧ a ≠ L ∧ g.get? a = none := by
    intro a o e n
    refine ⟨e, fun q => ?_, ?_⟩
    · obtain ⟨_, _, _, e', _⟩ := F.ns
      rw [q, e'] at n; cases n
    · cases q : g.get? a with
      | none => rfl
      | some o' => rw [F.keep _ _ q] at n; cases n
  intro p hp
  rcases List.mem_cons.mp hp with rfl | hp
  · exact key _ _ hD hDn
  rcases List.mem_cons.mp hp with rfl | hp
  · exact key _ _ (hB _ List.mem_cons_self).1 (hB _ List.mem_cons_self).2
  rcases List.mem_cons.mp hp with rfl | hp
  · have := hB (c, lst zs) (List.mem_cons_of_mem _ List.mem_cons_self)
    exact key _ _ this.1 this.2
  · exact N p (List.mem_append_right _ hp)
def KC (d : D) : Prop := d.cls = 85 ∨ d.cls = 107 ∨ d.cls = 128 ∨ d.cls = 149
theorem kc_of {d : D} (h : d.isInt = false) (h' : (d.cls == 58) = false) : KC d := by
  cases d
  case vec a k l => cases k <;> simp [KC, D.cls]
  all_goals simp [KC, D.cls, D.isInt] at h h' ⊢
theorem kl_eq {d e : D} (kd : KC d) (ke : KC e) : ((d.cls == 85) == (e.cls == 85) && ((d.cls == 107) == (e.cls == 107) && ((d.cls == 128) == (e.cls == 128) && (d.cls == 149) == (e.cls == 149)))) = (d.cls == e.cls) := by
  rcases kd with q | q | q | q <;> rcases ke with r | r | r | r <;> simp [q, r]
theorem kc_forms {d e : D} (kd : KC d) (h : d.cls = e.cls) : (∃ a x y a' x' y', d = .cons a x y ∧ e = .cons a' x' y') ∨ (∃ a cs sp a' cs' sp', d = .text a cs sp ∧ e = .text a' cs' sp') ∨ (∃ a k l a' l', d = .vec a k l ∧ e = .vec a' k l') := by
  cases d with
  | int i => simp [KC, D.cls] at kd
  | sym a => simp [KC, D.cls] at kd
  | cons a x y =>
    cases e with
    | cons a' x' y' => exact .inl ⟨_, _, _, _, _, _, rfl, rfl⟩
    | vec a' k l => cases k <;> simp [D.cls] at h
    | _ => simp [D.cls] at h
  | text a cs sp =>
    cases e with
    | text a' cs' sp' => exact .inr (.inl ⟨_, _, _, _, _, _, rfl, rfl⟩)
    | vec a' k l => cases k <;> simp [D.cls] at h
    | _ => simp [D.cls] at h
  | vec a k l =>
    cases e with
    | vec a' k' l' => cases k <;> cases k' <;> first | exact .inr (.inr ⟨_, _, _, _, _, rfl, rfl⟩) | simp [D.cls] at h
    | _ => cases k <;> simp [D.cls] at h
theorem alike_cls {b : Bool} {d e : D} (kd : KC d) (ke : KC e) (h : d.cls ≠ e.cls) : alike b d e = false := by
  cases d <;> cases e <;> simp_all [alike, D.cls, KC]
  case vec.vec a k l a' k' l' => cases k <;> cases k' <;> simp_all
theorem alike_mixed {b : Bool} {d e : D} (h : d.isInt ≠ e.isInt) : alike b d e = false := by
  cases d <;> cases e <;> simp_all [D.isInt, alike, D.same, D.ref]
theorem alike_sym {b : Bool} {d e : D} (h : (d.cls == 58) = true ∨ (e.cls == 58) = true) (h1 : d.isInt = false) (h2 : e.isInt = false) : alike b d e = d.same e := by
  cases d <;> cases e <;> simp_all [D.isInt, alike, D.cls]
  case vec.vec a k l a' k' l' => cases k <;> cases k' <;> simp_all
  case cons.vec a x y a' k' l' => cases k' <;> simp_all
  case text.vec a x y a' k' l' => cases k' <;> simp_all
  case vec.cons a k l a' x y => cases k <;> simp_all
  case vec.text a k l a' x y => cases k <;> simp_all
def AlikeS (w : World) (n : Nat) : Prop :=
  ∀ {outer : List Env} {s : Shared} {dp un : Nat} {gd : Option (List Code)} {lk : Addr → Obj → Prop} {d e : D} {v u : Value} {b : Bool} {Q E : Value → Shared → Prop}, d.depth < n → 
    Gd w [] outer s.heap → (∀ a o, lk a o → (hideAll s.heap []).get? a = some o) → At w lk d v → At w lk e u → dp + d.depth + 8 < recursionLimit → un + 200 * d.depth + 800 < cLine →
    (∀ h' tk', Frame [] s.heap h' → Q (.bool (alike b d e)) { s with heap := h', toks := tk' }) →
    wpAny (model PySem.Challenge.rw_np0028_01.row.prog w) (Ar dp un gd outer) (call (.ref 361) [v, u, .bool b]) Q E s
theorem alike_call {w : World} {n : Nat} (H : AlikeS w n) {outer : List Env} {s : Shared} {dp un : Nat} {gd : Option (List Code)} {lk : Addr → Obj → Prop} {d e : D} {v u : Value} {b : Bool} {Q E : Value → Shared → Prop} (hn : d.depth < n)
    (G : Gd w [] outer s.heap) (hlk : ∀ a o, lk a o → (hideAll s.heap []).get? a = some o) (hd : At w lk d v) (he : At w lk e u) (hdp : dp + d.depth + 8 < recursionLimit) (hun : un + 200 * d.depth + 800 < cLine)
    (ret : ∀ h' tk', Frame [] s.heap h' → Q (.bool (alike b d e)) { s with heap := h', toks := tk' }) :
    wpAny (model PySem.Challenge.rw_np0028_01.row.prog w) (Ar dp un gd outer) (call (.ref 361) [v, u, .bool b]) Q E s := H hn G hlk hd he hdp hun ret
local macro_rules | `(tactic| walk_at "call ref") => `(tactic| (
  (with_reducible show wpAny _ _ (call (Value.ref 361) _) _ _ _);
  refine' alike_call ?H ?hn ?k1 ?k2 ?h0 ?h1 ?k4 ?k5 ?_; (case H => assumption); (case h0 => assumption); (case h1 => assumption); (case hn => omega);
  (case k1 => exact Gd.push0 (by assumption) (by k_asm)); (case k2 => exact lkH (by k_asm) (by assumption)); (case k4 => (try dsimp only); omega); (case k5 => (try dsimp only); omega);
  (intro h' tk' fr'; have F' := after0F (by k_asm) fr'; have N' := after0N (by k_asm) fr'; (try k_sweep); (try dsimp only))))
local macro_rules | `(tactic| walk_at "compareOp Eq") => `(tactic| (refine eq_spans (by k_asm) (by assumption) (by assumption) (by assumption) (by dsimp only [Around.deeper]; omega) ?_))
theorem news_one {g h h' : Heap} {L D : Addr} {m : Str → Option Value} {o : Obj} {news : List (Addr × Obj)} (F : Fr g L h m) (N : News g L h' news) (hD : h'.get? D = some o) (hDn : h.get? D = none) : News g L h' ((D, o) :: news) := by
  intro p hp
  rcases List.mem_cons.mp hp with rfl | hp
  · refine ⟨hD, fun q => ?_, ?_⟩
    · obtain ⟨_, _, _, e', _⟩ := F.ns
      subst q; rw [e'] at hDn; cases hDn
    · cases q : g.get? D with
      | none => rfl
      | some o' => rw [F.keep _ _ q] at hDn; cases hDn
  · exact N p hp
theorem alikes_zip {b : Bool} : ∀ {l r : DL}, l.len = r.len → alikes b l r = (l.zip r).all fun p => alike b p.1 p.2
  | .nil, .nil, _ => by simp [alikes, DL.zip]
  | .nil, .cons _ _, h => by simp [DL.len] at h
  | .cons _ _, .nil, h => by simp [DL.len] at h
  | .cons d l, .cons e r, h => by
    simp only [DL.len, Nat.add_right_cancel_iff] at h
    simp [alikes, DL.zip, alikes_zip h]
theorem zip_depth : ∀ (l r : DL) {i : Nat} {d e : D}, (l.zip r)[i]? = some (d, e) → d.depth ≤ l.depth
  | .nil, _, i, d, e, h => by simp [DL.zip] at h
  | .cons _ _, .nil, i, d, e, h => by simp [DL.zip] at h
  | .cons d' l, .cons e' r, 0, d, e, h => by simp [DL.zip] at h; obtain ⟨rfl, _⟩ := h; simp only [DL.depth]; omega
  | .cons d' l, .cons e' r, i + 1, d, e, h => by
    simp only [DL.zip, List.getElem?_cons_succ] at h
    have := zip_depth l r h
    simp only [DL.depth]; omega
def KGood (d e : D) : GoodT := fun i rs nw _ => match i with
  | 0 => rs = [] ∧ nw = []
  | 1 => ∃ a, rs = [.ref a] ∧ nw = [(a, lst (kl d))]
  | _ => ∃ a c, rs = [.ref a, .ref c] ∧ nw = [(a, lst (kl d)), (c, lst (kl e))]
set_option maxHeartbeats 8000000 in
theorem alike_spec {w : World} {outer : List Env} {s : Shared} {dp un : Nat} {gd : Option (List Code)} {lk : Addr → Obj → Prop} {d e : D} {v u : Value} {b : Bool} {Q E : Value → Shared → Prop}
    (G : Gd w [] outer s.heap) (hlk : ∀ a o, lk a o → (hideAll s.heap []).get? a = some o) (hd : At w lk d v) (he : At w lk e u) (hdp : dp + d.depth + 8 < recursionLimit) (hun : un + 200 * d.depth + 800 < cLine) (IH : AlikeS w d.depth)
    (ret : ∀ h' tk', Frame [] s.heap h' → Q (.bool (alike b d e)) { s with heap := h', toks := tk' }) :
    wpAny (model PySem.Challenge.rw_np0028_01.row.prog w) (Ar dp un gd outer) (call (.ref 361) [v, u, .bool b]) Q E s := by
  refine wpAny_call ?_
  refine enterC (binds := [(Str.ofString "one", v), (Str.ofString "other", u), (Str.ofString "with_spans", .bool b)]) G (by omega) (by k_is) (by k_is) (BindsTo.of_eq rfl) rfl (by decide +kernel) rfl rfl rfl ?_
  intro base p loose mean mg mb h₁ tk₁ cells F hN Y B T
  have X := G.X
  have N := hN [] (fun _ hq => nomatch hq)
  have ret0 : ∀ B h' tk', B = alike b d e → Frame [] s.heap h' → Q (.bool B) { s with heap := h', toks := tk' } := by rintro _ _ _ rfl hf; exact ret _ _ hf
  have q1 := hd.handed
  have q2 := he.handed
  clear hN B
  k_cells Y
  simp only [List.cons_append, List.nil_append] at N
  try dsimp only
  try k_fold
  repeat' (first | k_unfold | ((fail_if_success (with_reducible show wpAny _ _ (exec (Stmt.Assign _ (PySem.Expr.ListComp _ _ _ _) _) _) _ _ _)); walk1) | ((fail_if_success (with_reducible show wpAny _ _ (exec (Stmt.Assign _ (PySem.Expr.ListComp _ _ _ _) _) _) _ _ _)); dsimp only; walk1))
  · obtain ⟨i, t, rfl, rfl⟩ := hd.int_of (by assumption)
    obtain ⟨j, t', rfl, rfl⟩ := he.int_of (by assumption)
    k_steps
    exact ret0 _ _ _ (by simp [alike]) (Frame.of_Fr (by assumption))
  · exact ret0 _ _ _ (by rw [alike_mixed (by simp_all)]; assumption) (Frame.of_Fr (by assumption))
  · exact ret0 _ _ _ (by rw [alike_mixed (by simp_all)]; assumption) (Frame.of_Fr (by assumption))
  · obtain ⟨a, ha, rfl⟩ := hd.ref_of (by assumption)
    obtain ⟨b', hb, rfl⟩ := he.ref_of (by assumption)
    obtain ⟨Ca, da, ka⟩ := hd.obj ha
    obtain ⟨Cb, db, kb⟩ := he.obj hb
    refine is_refs (Fr.keep (by k_asm) _ _ (hlk _ _ ka)) (Fr.keep (by k_asm) _ _ (hlk _ _ kb)) (by simp) ?_
    try k_fold
    k_steps
    exact ret0 _ _ _ (by rw [alike_sym (.inl (by assumption)) (by assumption) (by assumption), same_ref ha hb]) (Frame.of_Fr (by assumption))
  · obtain ⟨a, ha, rfl⟩ := hd.ref_of (by assumption)
    obtain ⟨b', hb, rfl⟩ := he.ref_of (by assumption)
    obtain ⟨Ca, da, ka⟩ := hd.obj ha
    obtain ⟨Cb, db, kb⟩ := he.obj hb
    refine is_refs (Fr.keep (by k_asm) _ _ (hlk _ _ ka)) (Fr.keep (by k_asm) _ _ (hlk _ _ kb)) (by simp) ?_
    try k_fold
    k_steps
    exact ret0 _ _ _ (by rw [alike_sym (.inr (by assumption)) (by assumption) (by assumption), same_ref ha hb]) (Frame.of_Fr (by assumption))
  · k_dflt (refine comp_use (V := VC _ _ [] (Str.ofString "thing")) (by with_unfolding_all rfl) (tv_cell (by rfl) (by rfl) (by intro _; rfl) (by intro _; rfl)) (by with_unfolding_all rfl) (by rfl) (by decide) (by intro _; with_unfolding_all rfl) (by intro _ _; rfl) ?_)
    repeat' (first | ((fail_if_success (with_reducible show wpAny _ _ (pyIter _) _ _ _)); walk1) | ((fail_if_success (with_reducible show wpAny _ _ (pyIter _) _ _ _)); dsimp only; walk1))
    rename_i t0 _ F1 N1 _
    refine gsrc_tuple (ws := []) (KGood d e) rfl (News.isTup N1 (by k_mem)) (by simp [sizeLine_eq]) (fun h => nomatch h) F1 N1 (fun _ _ h => nomatch h) ⟨rfl, rfl⟩ ?_ ?_
    · intro g0 i x cenv objs h tk rs nw ws' E' hi hx hV hfg F2 N2 hog hwm hG _
      obtain rfl : ws' = [] := by simpa using hwm
      refine wpAny_tests_nil ?_
      simp only [if_true]
      obtain ⟨C, oC, m₂, c, oc, hE, hC, rfl, hne, hoC, hoc⟩ := hV
      rw [hE]
      have hdd : ∃ dd, At w lk dd x ∧ (i = 0 → dd = d) ∧ (i = 1 → dd = e) := by
        rcases i with _ | _ | i
        · simp at hx; subst hx; exact ⟨d, hd, fun _ => rfl, fun h => nomatch h⟩
        · simp at hx; subst hx; exact ⟨e, he, (fun h => nomatch h), fun _ => rfl⟩
        · simp at hi; omega
      obtain ⟨dd, hdd, hd0, hd1⟩ := hdd
      clear F1 N1
      simp only [List.cons_append, List.nil_append] at N2
      k_dflt (refine comp_gen (V := VL _ _ [(Str.ofString "thing", c)] (Str.ofString "word")) (tv_local (by decide) (by rfl) (by rfl)) (by with_unfolding_all rfl) (by rfl) (by decide) (by intro _; with_unfolding_all rfl) (by intro _ _; rfl) ?_)
      repeat' (first | ((fail_if_success (with_reducible show wpAny _ _ (newTuple _) _ _ _)); walk1) | ((fail_if_success (with_reducible show wpAny _ _ (newTuple _) _ _ _)); dsimp only; walk1))
      refine wpAny_newTuple ?_
      refine gsrc_tuple (ws := []) (fun i rs nw _ => rs = (kl dd).take i ∧ nw = []) rfl ⟨_, Heap.get?_push_size _ rfl, rfl, _, rfl⟩ (by simp [sizeLine_eq]) (fun h => nomatch h) (F2.push _) (N2.grown fun b o e => Heap.get?_push_of_some _ e) (fun _ _ h => nomatch h) ⟨rfl, rfl⟩ ?_ ?_
      · dsimp only
        intro g1 j y cenv' objs' h' tk' rs' nw' ws'' E'' hj hy hV' hfg' F3 N3 hog' hwm' hG' _
        obtain rfl : ws'' = [] := by simpa using hwm'
        refine wpAny_tests_nil ?_
        simp only [if_true]
        obtain ⟨C', oC', m₃, hE', hC', rfl, hoC', hm'⟩ := hV'
        rw [hE']
        clear F2 N2
        simp only [List.cons_append, List.nil_append] at N3
        rcases j with _ | _ | _ | _ | j
        case succ.succ.succ.succ => simp at hj; omega
        all_goals (simp at hy; subst hy)
        all_goals (repeat' ((with_reducible show wpAny _ _ _ _ _ _); first | k_unfold | walk1 | (dsimp only; walk1)))
        all_goals (obtain ⟨rfl, rfl⟩ := hG'; exact ⟨h', _, [], [], rfl, fun _ _ _ e => e, fun _ h => (nomatch h), rfl, fun _ h => (nomatch h), rfl, rfl⟩)
      · intro g1
        refine GFin.plain ?_
        intro D h'' tk'' rs'' nw'' ws3 a1 a2 a3 a4 a5 a6 a7 a8
        obtain ⟨rfl, rfl⟩ := a6
        have up : Grow h (h.push { cls := .type "tuple", data := .seq ([Value.ref 85, Value.ref 107, Value.ref 128, Value.ref 149] : List Value).toArray }) := fun b o e => Heap.get?_push_of_some _ e
        have hDh : h.get? D = none := by
          cases q : h.get? D with
          | none => rfl
          | some o => rw [up _ _ q] at a3; cases a3
        refine ⟨h'', _, [(D, lst (kl dd))], [], rfl, fun b o hb e => a1 b o hb (up _ _ e), fun p hp => ?_, rfl, fun _ h => (nomatch h), ?_⟩
        · rw [List.mem_singleton] at hp; subst hp; exact ⟨a2, hDh⟩
        · rcases i with _ | _ | i
          · obtain ⟨rfl, rfl⟩ := hG; rw [hd0 rfl]; exact ⟨D, rfl, rfl⟩
          · obtain ⟨a, rfl, rfl⟩ := hG; rw [hd1 rfl]; exact ⟨a, D, rfl, rfl⟩
          · simp at hi; omega
    · intro g0
      refine' GFin.store ?f1 ?n1 ?n0 ?n2 ?n3 ?_; (case f1 => exact F1); (case n0 => exact N1); (case n1 => exact fun _ _ h => nomatch h); (case n2 => rfl); (case n3 => rfl)
      intro D0 h'' tk'' rs'' nw'' ws3 a2 a3 a4 a6 a7 a8 F5 N5
      obtain ⟨a0, c0, rfl, rfl⟩ := a6
      have N6 : News (hideAll s.heap []) s.heap.objs.size h'' ((D0, PySem.W.listOf #[Value.ref a0, Value.ref c0] 2) :: (a0, PySem.W.listOf #[.bool (d.cls == 85), .bool (d.cls == 107), .bool (d.cls == 128), .bool (d.cls == 149)] 4) :: (c0, PySem.W.listOf #[.bool (e.cls == 85), .bool (e.cls == 107), .bool (e.cls == 128), .bool (e.cls == 149)] 4) :: _) :=
        news_three F1 N5 a2 a3 a7
      clear N5 F1 N1 a2 a3 a7 a8 a4
      have kd : KC d := kc_of (by assumption) (by assumption)
      have ke : KC e := kc_of (by assumption) (by assumption)
      try k_fold
      repeat' ((with_reducible show wpAny _ _ _ _ _ _); first | k_unfold | walk1 | (dsimp only; walk1))
      rw [kl_eq kd ke]
      by_cases hk : d.cls = e.cls
      case neg =>
        rw [if_pos (by simpa using hk)]
        k_steps
        rw [alike_cls kd ke hk] at ret
        exact ret _ _ (Frame.of_Fr (by assumption))
      case pos =>
        rw [if_neg (by simpa using hk)]
        try k_fold
        have ret' : ∀ B h' tk', B = alike b d e → Frame [] s.heap h' → Q (.bool B) { s with heap := h', toks := tk' } := by rintro _ _ _ rfl hf; exact ret _ _ hf
        rcases kc_forms kd hk with ⟨a, x, y, a', x', y', rfl, rfl⟩ | ⟨a, cs, sp, a', cs', sp', rfl, rfl⟩ | ⟨a, k, l, a', l', rfl, rfl⟩
        · simp only [D.cls, Nat.reduceBEq] at N6
          simp only [At] at hd he
          obtain ⟨rfl, da, v1, v2, t1, t2, g1, g2, k1, k2⟩ := hd
          obtain ⟨rfl, db, u1, u2, t3, t4, j1, j2, k3, k4⟩ := he
          replace g1 := hlk _ _ g1; replace g2 := hlk _ _ g2; replace j1 := hlk _ _ j1; replace j2 := hlk _ _ j2
          have r1 := k1.handed; have r2 := k2.handed; have r3 := k3.handed; have r4 := k4.handed
          have dx : x.depth < (D.cons a x y).depth := by simp only [D.depth]; omega
          have dy : y.depth < (D.cons a x y).depth := by simp only [D.depth]; omega
          k_steps
          all_goals exact ret' _ _ _ (by simp_all [alike]) (Frame.of_Fr (by assumption))
        · simp only [D.cls, Nat.reduceBEq] at N6
          simp only [At] at hd he
          obtain ⟨rfl, da, c1, n1, vs, t1, t2, sv, g1, g2, g3, i1, z1, hs1⟩ := hd
          obtain ⟨rfl, db, c2, n2, us, t3, t4, su, j1, j2, j3, i2, z2, hs2⟩ := he
          replace g1 := hlk _ _ g1; replace g2 := hlk _ _ g2; replace j1 := hlk _ _ j1; replace j2 := hlk _ _ j2; replace g3 := hlk _ _ g3; replace j3 := hlk _ _ j3
          have l1 : (hideAll s.heap []).IsList c1 vs.toArray := ⟨_, g3, rfl, n1, rfl⟩
          have l2 : (hideAll s.heap []).IsList c2 us.toArray := ⟨_, j3, rfl, n2, rfl⟩
          have r1 := hs1.handed; have r2 := hs2.handed
          k_steps
          · refine is_refs (Fr.keep (by k_asm) _ _ g1) (Fr.keep (by k_asm) _ _ j1) (by simp) ?_
            try k_fold
            k_steps
            all_goals exact ret' _ _ _ (by simp_all [alike]) (Frame.of_Fr (by assumption))
          · exact ret' _ _ _ (by simp_all [alike]) (Frame.of_Fr (by assumption))
        · have ih : ∀ {dd : D}, dd.depth ≤ l.depth → dd.depth < (D.vec a k l).depth := fun h => by simp only [D.depth]; omega
          have hdl : (D.vec a k l).depth = l.depth + 1 := by simp only [D.depth]
          have hsub := @zip_depth l l'
          simp only [At] at hd he
          obtain ⟨rfl, da, c1, n1, vs, t1, g1, g2, g3, k1, z1⟩ := hd
          obtain ⟨rfl, db, c2, n2, us, t3, j1, j2, j3, k2, z2⟩ := he
          replace g1 := hlk _ _ g1; replace g2 := hlk _ _ g2; replace j1 := hlk _ _ j1; replace j2 := hlk _ _ j2; replace g3 := hlk _ _ g3; replace j3 := hlk _ _ j3
          have e1 := k1.len
          have e2 := k2.len
          have f1 := len_fits e1 z1
          cases k
          · simp only [Bool.false_eq_true, if_false] at g1 j1
            simp only [D.cls, Bool.false_eq_true, if_false, Nat.reduceBEq] at N6
            repeat' (first | k_unfold | ((fail_if_success (with_reducible show wpAny _ _ (compareOp CmpOp.NotEq (Value.int _ _) (Value.int _ _)) _ _ _)); walk1) | ((fail_if_success (with_reducible show wpAny _ _ (compareOp CmpOp.NotEq (Value.int _ _) (Value.int _ _)) _ _ _)); dsimp only; walk1))
            walk1
            walk1
            by_cases hl : l.len = l'.len
            case neg =>
              rw [if_pos (by simp [e1, e2]; omega)]
              k_steps
              exact ret' _ _ _ (by simp [alike, hl]) (Frame.of_Fr (by assumption))
            case pos =>
              rw [if_neg (by simp [e1, e2, hl])]
              try k_fold
              repeat' (first | (k_unfold; (try dsimp only)) | ((fail_if_success (with_reducible show wpAny _ _ (eval (PySem.Expr.ListComp _ _ _ _) _) _ _ _)); walk1) | ((fail_if_success (with_reducible show wpAny _ _ (eval (PySem.Expr.ListComp _ _ _ _) _) _ _ _)); dsimp only; walk1))
              k_dflt (refine comp_zip (by with_unfolding_all rfl) (by decide) (by rfl) (by decide) (by rfl) (by rfl) (by decide) (by intro _; with_unfolding_all rfl) ?_)
              repeat' (first | (k_unfold; (try dsimp only)) | ((fail_if_success (with_reducible show wpAny _ _ (call (Value.type "zip") _) _ _ _)); walk1) | ((fail_if_success (with_reducible show wpAny _ _ (call (Value.type "zip") _) _ _ _)); dsimp only; walk1))
              rename Fr _ _ _ _ => F7
              refine ZSrc.call (fun i rs nw => nw = [] ∧ ∃ ns : List Int, IntsAre rs ns ∧ decide (ns = []) = ((l.zip l').take i).all (fun p => alike b p.1 p.2)) rfl ⟨_, F7.keep _ _ g3, rfl, n1, rfl⟩ ⟨_, F7.keep _ _ j3, rfl, n2, rfl⟩ f1 F7 (by k_asm) ⟨rfl, [], .nil, by simp⟩ ?_ ?_
              · intro g i x y C oC m₂ h tk rs nw E' hx hy hC hma hmb hg F8 N8 hG
                clear N6 F7
                simp only [List.getElem?_toArray] at hx hy
                obtain ⟨d₁, e₁, z, p1, p2⟩ := zip_get k1 k2 hx hy
                have dz := ih (hsub z)
                have r1 := p1.handed
                have r2 := p2.handed
                refine wpAny_tests_one ?_
                repeat' (first | (k_unfold; (try dsimp only)) | ((fail_if_success (with_reducible show ite _ _ _)); walk1))
                rename Frame [] _ _ => fr9
                obtain ⟨rfl, ns, hI, hns⟩ := hG
                rw [take_snoc z, List.all_append]
                cases hb : alike b d₁ e₁
                · rw [if_pos (by simp)]
                  try k_fold
                  walk1
                  exact ⟨_, _, [], rfl, fun b o e => fr9 b o (fun h => nomatch h) e, fun _ h => (nomatch h), rfl, ns ++ [1], hI.append (.cons _ _ .nil), by simp [hb]⟩
                · rw [if_neg (by simp)]
                  exact ⟨_, _, rfl, fun b o e => fr9 b o (fun h => nomatch h) e, rfl, ns, hI, by simp [hb, hns]⟩
              · intro D1 h' tk' rs nw hg hD hDn hG hB
                obtain ⟨rfl, ns, hI, hns⟩ := hG
                rw [List.take_of_length_le (by have := zip_len hl; simp only [List.size_toArray]; omega)] at hns
                have F9 := F7.keeps hg
                have N9 : News (hideAll s.heap []) s.heap.objs.size h' ((D1, PySem.W.listOf rs.toArray rs.length) :: _) := news_one F7 (N6.grown hg) hD hDn
                clear F7 N6
                try k_fold
                k_steps
                exact ret' _ _ _ (by simp [alike, hl, alikes_zip hl, hns]) (Frame.of_Fr (by assumption))
          · simp only [if_true] at g1 j1
            simp only [D.cls, if_true, Nat.reduceBEq] at N6
            repeat' (first | k_unfold | ((fail_if_success (with_reducible show wpAny _ _ (compareOp CmpOp.NotEq (Value.int _ _) (Value.int _ _)) _ _ _)); walk1) | ((fail_if_success (with_reducible show wpAny _ _ (compareOp CmpOp.NotEq (Value.int _ _) (Value.int _ _)) _ _ _)); dsimp only; walk1))
            walk1
            walk1
            by_cases hl : l.len = l'.len
            case neg =>
              rw [if_pos (by simp [e1, e2]; omega)]
              k_steps
              exact ret' _ _ _ (by simp [alike, hl]) (Frame.of_Fr (by assumption))
            case pos =>
              rw [if_neg (by simp [e1, e2, hl])]
              try k_fold
              repeat' (first | (k_unfold; (try dsimp only)) | ((fail_if_success (with_reducible show wpAny _ _ (eval (PySem.Expr.ListComp _ _ _ _) _) _ _ _)); walk1) | ((fail_if_success (with_reducible show wpAny _ _ (eval (PySem.Expr.ListComp _ _ _ _) _) _ _ _)); dsimp only; walk1))
              k_dflt (refine comp_zip (by with_unfolding_all rfl) (by decide) (by rfl) (by decide) (by rfl) (by rfl) (by decide) (by intro _; with_unfolding_all rfl) ?_)
              repeat' (first | (k_unfold; (try dsimp only)) | ((fail_if_success (with_reducible show wpAny _ _ (call (Value.type "zip") _) _ _ _)); walk1) | ((fail_if_success (with_reducible show wpAny _ _ (call (Value.type "zip") _) _ _ _)); dsimp only; walk1))
              rename Fr _ _ _ _ => F7
              refine ZSrc.call (fun i rs nw => nw = [] ∧ ∃ ns : List Int, IntsAre rs ns ∧ decide (ns = []) = ((l.zip l').take i).all (fun p => alike b p.1 p.2)) rfl ⟨_, F7.keep _ _ g3, rfl, n1, rfl⟩ ⟨_, F7.keep _ _ j3, rfl, n2, rfl⟩ f1 F7 (by k_asm) ⟨rfl, [], .nil, by simp⟩ ?_ ?_
              · intro g i x y C oC m₂ h tk rs nw E' hx hy hC hma hmb hg F8 N8 hG
                clear N6 F7
                simp only [List.getElem?_toArray] at hx hy
                obtain ⟨d₁, e₁, z, p1, p2⟩ := zip_get k1 k2 hx hy
                have dz := ih (hsub z)
                have r1 := p1.handed
                have r2 := p2.handed
                refine wpAny_tests_one ?_
                repeat' (first | (k_unfold; (try dsimp only)) | ((fail_if_success (with_reducible show ite _ _ _)); walk1))
                rename Frame [] _ _ => fr9
                obtain ⟨rfl, ns, hI, hns⟩ := hG
                rw [take_snoc z, List.all_append]
                cases hb : alike b d₁ e₁
                · rw [if_pos (by simp)]
                  try k_fold
                  walk1
                  exact ⟨_, _, [], rfl, fun b o e => fr9 b o (fun h => nomatch h) e, fun _ h => (nomatch h), rfl, ns ++ [1], hI.append (.cons _ _ .nil), by simp [hb]⟩
                · rw [if_neg (by simp)]
                  exact ⟨_, _, rfl, fun b o e => fr9 b o (fun h => nomatch h) e, rfl, ns, hI, by simp [hb, hns]⟩
              · intro D1 h' tk' rs nw hg hD hDn hG hB
                obtain ⟨rfl, ns, hI, hns⟩ := hG
                rw [List.take_of_length_le (by have := zip_len hl; simp only [List.size_toArray]; omega)] at hns
                have F9 := F7.keeps hg
                have N9 : News (hideAll s.heap []) s.heap.objs.size h' ((D1, PySem.W.listOf rs.toArray rs.length) :: _) := news_one F7 (N6.grown hg) hD hDn
                clear F7 N6
                try k_fold
                k_steps
                exact ret' _ _ _ (by simp [alike, hl, alikes_zip hl, hns]) (Frame.of_Fr (by assumption))
theorem AlikeS.mono {w : World} {n m : Nat} (H : AlikeS w n) (h : m ≤ n) : AlikeS w m := fun {_ _ _ _ _ _ _ _ _ _ _ _ _} hn => H (Nat.lt_of_lt_of_le hn h)
theorem alike_all {w : World} : ∀ n, AlikeS w n
  | 0 => by
    intro h
    exact absurd h (Nat.not_lt_zero _)
  | n + 1 => by
    intro h G hlk hd he hdp hun ret
    exact alike_spec G hlk hd he hdp hun (AlikeS.mono (alike_all n) (Nat.lt_succ_iff.mp h)) ret
end T8X

open PySem PySem.W PySem.Calls PyProof.Rows in
theorem rstT9 {M : Model} {A : Around} {env : Env} {Q : Flow → Shared → Prop} {E : Value → Shared → Prop} {s : Shared} (h : Q Flow.next s) : wpAny M A (execs [] env) Q E s := by
  w_top off
  first | (walk1; exact h) | exact wpAny_execs_nil h
section T9X
open PySem PySem.W PySem.Calls PyProof.Rows
set_option Elab.async false
set_option maxRecDepth 100000
def Deck (o : Obj) : Prop := ∃ kvs ks n, o = PySem.W.listOf (List.toArray kvs) n ∧ IntsAre kvs ks ∧ (∀ k ∈ ks, 0 ≤ k) ∧ ks.length ≤ 100
structure StK where
  kvs : List Value
  ks : List Int
  n : Nat
set_option maxHeartbeats 8000000 in
theorem draw_specT {w : World} {outer : List Env} {s : Shared} {dp un : Nat} {gd : Option (List Code)} {K : Addr} {o : Obj} {many : Int} {t : Tok} {Q E : Value → Shared → Prop}
    (G : Gd w [K] outer s.heap) (hK : s.heap.get? K = some o) (hd : Deck o) (hm : 0 < many) (hm1 : many < 1000) (hdp : dp + 2 < recursionLimit) (hun : un + 200 < cLine)
    (ret : ∀ k t' o' h' tk', 0 ≤ k → k < many → Deck o' → h'.get? K = some o' → Frame [K] s.heap h' → s.toks < tk' → Q (.int k t') { s with heap := h', toks := tk' }) :
    wpAny (model PySem.Challenge.rw_np0028_01.row.prog w) (Ar dp un gd outer) (call (.ref 339) [.ref K, .int many t]) Q E s := by
  obtain ⟨kvs, ks, n, rfl, hI, hpos, hlen⟩ := hd
  have hm0 : many ≠ 0 := by omega
  have hm2 : many.natAbs < 1073741824 := by omega
  refine wpAny_call ?_
  refine enterT (binds := [(Str.ofString "deck", .ref K), (Str.ofString "many", .int many t)]) G (by omega) (by k_is) (by k_is) (BindsTo.of_eq rfl) (locs rfl) rfl rfl rfl (by decide) ?_
  intro base p loose mean mg mb h₁ tk₁ le1 F hN B T
  have X := G.X
  have N := hN [(K, PySem.W.listOf kvs.toArray n)] (by intro q hq; rw [List.mem_singleton] at hq; subst hq; exact ⟨List.mem_singleton.mpr rfl, hK⟩)
  clear hN B
  try k_fold
  have le2 : s.toks < tk₁ := by simp only [List.length_cons, List.length_nil] at le1; omega
  refine wpAny_tok ?_
  repeat' (first | k_unfold | ((fail_if_success (with_reducible show wpAny _ _ (exec (Stmt.While _ _ _ _) _) _ _ _)); walk1) | ((fail_if_success (with_reducible show wpAny _ _ (exec (Stmt.While _ _ _ _) _) _ _ _)); dsimp only; walk1))
  refine ksw_while (fun c : StK => [(K, PySem.W.listOf c.kvs.toArray c.n)]) (fun _ => []) (fun _ => True) [] (fun c => IntsAre c.kvs c.ks ∧ (∀ k ∈ c.ks, 0 ≤ k) ∧ c.ks.length ≤ 100) (fun c => c.ks.length) ⟨kvs, ks, n⟩ F N trivial (fun _ h => nomatch h) ⟨hI, hpos, hlen⟩ ?_
  clear F N
  rintro ⟨kvs, ks, n⟩ U h tk - ⟨hI, hpos, hlen⟩ F N
  dsimp only at hI hpos hlen F N
  cases hI with
  | nil =>
    try k_fold
    k_steps
    repeat (rename _ ≤ Shared.toks _ => le9; dsimp only at le9)
    exact ret _ _ _ _ _ (by omega) hm ⟨[], [], n, rfl, .nil, fun _ h => (nomatch h), by simp⟩ (News.get (by k_asm) (by k_mem)) (Frame.of_Fr (by assumption)) (by (try dsimp only); omega)
  | @cons k' t' kvs' ks' hI' =>
    have hk0 : 0 ≤ k' := hpos _ List.mem_cons_self
    have hpos' : ∀ k ∈ ks', 0 ≤ k := fun k hk => hpos _ (List.mem_cons_of_mem _ hk)
    have hlen' : ks'.length ≤ 99 := by simp only [List.length_cons] at hlen; omega
    have hl' := hI'.length
    try k_fold
    k_steps
    · simp_all
    · refine kl_popAt (its := (Value.int k' t' :: kvs').toArray) (k := 0) (p := []) (q := kvs') (y := .int k' t') (by k_asm) (by k_asm) rfl (by simp [seqIndex?]) rfl (by k_upd) (by simp only [List.length_cons, sizeLine_eq]; omega) ?_
      intro h9 F9 N9
      k_sweep
      try k_fold
      k_steps
      refine ksw_end ⟨kvs', ks', n + 1⟩ (by assumption) N9 (fun p hp => List.mem_cons_of_mem _ hp) trivial (fun _ h => nomatch h) (fun _ _ _ => rfl) ⟨hI', hpos', by dsimp only; omega⟩ (by simp only [List.length_cons]; omega)
    · repeat (rename _ ≤ Shared.toks _ => le9; dsimp only at le9)
      refine ret (k'.fmod many) _ _ _ _ (Int.fmod_nonneg hk0 (Int.le_of_lt hm)) (Int.fmod_lt_of_pos _ hm) ⟨_, k'.fdiv many :: ks', n, rfl, .cons _ _ hI', ?_, by simp only [List.length_cons]; omega⟩ (News.get (by k_asm) (by k_mem)) (Frame.of_Fr (by assumption)) (by (try dsimp only); omega)
      intro k hk
      rcases List.mem_cons.mp hk with rfl | hk
      · exact Int.fdiv_nonneg hk0 (Int.le_of_lt hm)
      · exact hpos' k hk
theorem draw_spec {w : World} {outer : List Env} {s : Shared} {dp un : Nat} {gd : Option (List Code)} {K : Addr} {o : Obj} {many : Int} {t : Tok} {Q E : Value → Shared → Prop}
    (G : Gd w [K] outer s.heap) (hK : s.heap.get? K = some o) (hd : Deck o) (hm : 0 < many) (hm1 : many < 1000) (hdp : dp + 2 < recursionLimit) (hun : un + 200 < cLine)
    (ret : ∀ k t' o' h' tk', 0 ≤ k → k < many → Deck o' → h'.get? K = some o' → Frame [K] s.heap h' → Q (.int k t') { s with heap := h', toks := tk' }) :
    wpAny (model PySem.Challenge.rw_np0028_01.row.prog w) (Ar dp un gd outer) (call (.ref 339) [.ref K, .int many t]) Q E s :=
  draw_specT G hK hd hm hm1 hdp hun fun k t' o' h' tk' a b c d e _ => ret k t' o' h' tk' a b c d e
end T9X

section GrpT10X4
local macro_rules | `(tactic| k_room) => `(tactic| ((try simp only [depth_under_make, depth_under_kw, depth_in1, depth_deeper, depth_caller]); (try dsimp only); units_room))
open PySem PySem.W PySem.Calls PyProof.Rows in
theorem rstT10 {M : Model} {A : Around} {env : Env} {Q : Flow → Shared → Prop} {E : Value → Shared → Prop} {s : Shared} (h : Q Flow.next s) : wpAny M A (execs [] env) Q E s := by
  w_top off
  first | (walk1; exact h) | exact wpAny_execs_nil h
section T10X
open PySem PySem.W PySem.Calls PyProof.Rows
set_option Elab.async false
set_option maxRecDepth 100000
theorem born_W {h h' : Heap} {L : Addr} {W : List Addr} {nw l : List (Addr × Obj)} (N : News (hideAll h W) L h' l) (sub : ∀ p ∈ nw, p ∈ l) (off : ∀ p ∈ nw, p.1 ∉ W) : Born h h' nw := fun p hp => by
  refine ⟨(N p (sub p hp)).1, ?_⟩
  cases q : h.get? p.1 with
  | none => rfl
  | some o => have := (N p (sub p hp)).2.2; rw [hideAll_get W q (off p hp)] at this; cases this
theorem push_list (rvs : List Value) (v : Value) {n : Nat} : PySem.W.listOf (rvs.toArray.push v) n = PySem.W.listOf (rvs ++ [v]).toArray n := by simp
def Tbl (w : World) (lk : Addr → Obj → Prop) (tb R Nm : Addr) : Prop := ∃ dT t1 t2, lk tb (instObj 323 dT) ∧ lk dT (dictOf [ent w "rows" t1 (.ref R), ent w "names" t2 (.ref Nm)] 2)
def Rows (k : Nat) (o : Obj) : Prop := ∃ rvs n, o = PySem.W.listOf (List.toArray rvs) n ∧ rvs.length ≤ k
local macro_rules | `(tactic| walk_at "call builtin:len") => `(tactic| ((with_reducible show wpAny _ _ (call (Value.builtin "len") [Value.ref _]) _ _ _); refine' len_q ?k1 ?k2 ?k3 ?_; (case k1 => k_asm); (case k2 => k_mem); (case k3 => omega); intro tk' tk''))
set_option maxHeartbeats 8000000 in
theorem fresh_spec {w : World} {outer : List Env} {s : Shared} {dp un : Nat} {gd : Option (List Code)} {lk : Addr → Obj → Prop} {tb R Nm : Addr} {o : Obj} {k : Nat} {nm : Str} {t : Tok} {Q E : Value → Shared → Prop}
    (G : Gd w [R] outer s.heap) (hlk : ∀ a o, lk a o → (hideAll s.heap [R]).get? a = some o) (ht : Tbl w lk tb R Nm) (hR : s.heap.get? R = some o) (hr : Rows k o) (hk : k ≤ 100) (hdp : dp + 4 < recursionLimit) (hun : un + 200 < cLine)
    (ret : ∀ a nw es n o' h' tk', Born s.heap h' nw → nw = [(a, instObj 58 n), (n, dictOf es 2)] → Rows (k + 1) o' → h'.get? R = some o' → Frame [R] s.heap h' → Q (.ref a) { s with heap := h', toks := tk' }) :
    wpAny (model PySem.Challenge.rw_np0028_01.row.prog w) (Ar dp un gd outer) (call (.ref 285) [.ref tb, .str nm t]) Q E s := by
  obtain ⟨rvs, n, rfl, hlen⟩ := hr
  obtain ⟨dT, t1, t2, g1, g2⟩ := ht
  replace g1 := hlk _ _ g1; replace g2 := hlk _ _ g2
  refine wpAny_call ?_
  refine enter (binds := [(Str.ofString "self", .ref tb), (Str.ofString "name", .str nm t)]) G (by omega) (by k_is) (by k_is) (BindsTo.of_eq rfl) (locs rfl) rfl rfl rfl (by decide) ?_
  intro base p loose mean mg mb h₁ tk₁ F hN B T
  have X := G.X
  have N := hN [(R, PySem.W.listOf rvs.toArray n)] (by intro q hq; rw [List.mem_singleton] at hq; subst hq; exact ⟨List.mem_singleton.mpr rfl, hR⟩)
  clear hN
  try k_fold
  have fin : ∀ x d es n' h' tk' m, Fr (hideAll s.heap [R]) s.heap.objs.size h' m → News (hideAll s.heap [R]) s.heap.objs.size h' [(x, instObj 58 d), (d, dictOf es 2), (R, PySem.W.listOf (rvs.toArray.push (.ref x)) n')] → @LT.lt Nat _ R d → @LT.lt Nat _ d x → Q (.ref x) { s with heap := h', toks := tk' } := by
    intro x d es n' h' tk' m F N l1 l2
    refine ret x [(x, instObj 58 d), (d, dictOf es 2)] es d _ h' tk' (born_W N ?_ ?_) rfl ⟨_, _, push_list rvs _, by simp only [List.length_append, List.length_cons, List.length_nil]; omega⟩ (News.get N (by k_mem)) (Frame.of_Fr F)
    · intro p hp
      simp only [List.mem_cons, List.not_mem_nil, or_false] at hp ⊢
      rcases hp with rfl | rfl <;> simp
    · intro p hp
      simp only [List.mem_cons, List.not_mem_nil, or_false] at hp ⊢
      rcases hp with rfl | rfl <;> (refine neN ?_; dsimp only; omega)
  k_steps
  exact fin _ _ _ _ _ _ _ (by k_asm) (by k_asm) (by omega) (by omega)
end T10X

open PySem PySem.W PySem.Calls PyProof.Rows in
theorem rstT11 {M : Model} {A : Around} {env : Env} {Q : Flow → Shared → Prop} {E : Value → Shared → Prop} {s : Shared} (h : Q Flow.next s) : wpAny M A (execs [] env) Q E s := by
  w_top off
  first | (walk1; exact h) | exact wpAny_execs_nil h
section T11X
open PySem PySem.W PySem.Calls PyProof.Rows
set_option Elab.async false
set_option maxRecDepth 100000
theorem after1 {g h h' : Heap} {L x : Addr} {o o' : Obj} {m : Str → Option Value} {news : List (Addr × Obj)} {f : Obj → List (Addr × Obj)} (F : Fr g L h m) (N : News g L h news) (U : UpdF x o news f) (fr : Frame [x] h h') (hx : h'.get? x = some o') : Fr g L h' m ∧ News g L h' (f o') := by
  obtain ⟨pre, post, rfl, hf, h1, h2⟩ := U.split
  have hxo := N (x, o) (List.mem_append_right _ List.mem_cons_self)
  obtain ⟨oL, es, ep, hL, r⟩ := F.ns
  refine ⟨⟨⟨oL, es, ep, fr _ _ (by simpa using Ne.symm hxo.2.1) hL, r⟩, fun b o e => fr _ _ (fun q => ?_) (F.keep b o e), F.above⟩, ?_⟩
  · rw [List.mem_singleton] at q; rw [q, hxo.2.2] at e; cases e
  · rw [hf]
    intro p hp
    rcases List.mem_append.mp hp with hp | hp
    · have z := N p (List.mem_append_left _ hp)
      exact ⟨fr _ _ (by simpa using h1 p hp) z.1, z.2⟩
    rcases List.mem_cons.mp hp with rfl | hp
    · exact ⟨hx, hxo.2⟩
    · have z := N p (List.mem_append_right _ (List.mem_cons_of_mem _ hp))
      exact ⟨fr _ _ (by simpa using h2 p hp) z.1, z.2⟩
theorem born_news {g h h' : Heap} {L : Addr} {m : Str → Option Value} {news news' nw : List (Addr × Obj)} (F : Fr g L h m) (N : News g L h news) (N' : News g L h' news') (hB : Born h h' nw) : News g L h' (nw ++ news') ∧ ∀ p ∈ nw, ∀ q ∈ news, @Ne Nat p.1 q.1 := by
  refine ⟨fun p hp => ?_, fun p hp q hq e => ?_⟩
  · rcases List.mem_append.mp hp with hp | hp
    · refine ⟨(hB p hp).1, fun q => ?_, ?_⟩
      · obtain ⟨_, _, _, e', _⟩ := F.ns
        have := (hB p hp).2; rw [q, e'] at this; cases this
      · cases q : g.get? p.1 with
        | none => rfl
        | some o' => have := (hB p hp).2; rw [F.keep _ _ q] at this; cases this
    · exact N' p hp
  · have := (hB p hp).2; rw [e, (N q hq).1] at this; cases this
theorem gd1 {w : World} {outer : List Env} {W : List Addr} {h₀ h : Heap} {L x : Addr} {o : Obj} {m : Str → Option Value} {env : Env} {news : List (Addr × Obj)} {f : Obj → List (Addr × Obj)} (G : Gd w W outer h₀) (F : Fr (hideAll h₀ W) L h m) (N : News (hideAll h₀ W) L h news) (U : UpdF x o news f)
    (hf : env.frame = some L := by rfl) (hk : env.scope.kind = .function := by rfl) : Gd w [x] (env :: outer) h := by
  obtain ⟨pre, post, rfl, hg, h1, h2⟩ := U.split
  have hxo := N (x, o) (List.mem_append_right _ List.mem_cons_self)
  exact G.push F (fun a ha => by rw [List.mem_singleton] at ha; subst ha; exact hxo.2) hf hk
theorem get1 {g h : Heap} {L x : Addr} {o : Obj} {news : List (Addr × Obj)} {f : Obj → List (Addr × Obj)} (N : News g L h news) (U : UpdF x o news f) : h.get? x = some o := by
  obtain ⟨pre, post, rfl, hg, h1, h2⟩ := U.split
  exact (N (x, o) (List.mem_append_right _ List.mem_cons_self)).1
theorem lk1 {g h : Heap} {L x : Addr} {o : Obj} {m : Str → Option Value} {news : List (Addr × Obj)} {f : Obj → List (Addr × Obj)} {lk : Addr → Obj → Prop} (F : Fr g L h m) (N : News g L h news) (U : UpdF x o news f) (hl : ∀ a o, lk a o → g.get? a = some o) : ∀ a o, lk a o → (hideAll h [x]).get? a = some o := by
  obtain ⟨pre, post, rfl, hg, h1, h2⟩ := U.split
  have hxo := N (x, o) (List.mem_append_right _ List.mem_cons_self)
  intro a o e
  refine hideAll_get _ (F.keep _ _ (hl a o e)) fun q => ?_
  rw [List.mem_singleton] at q
  have := hl a o e
  rw [q, hxo.2.2] at this; cases this
def SymAt (lk : Addr → Obj → Prop) (a : Addr) : Prop := ∃ da es n, lk a (instObj 58 da) ∧ lk da (dictOf es n)
theorem SymAt.mono {lk lk' : Addr → Obj → Prop} (hl : ∀ a o, lk a o → lk' a o) {a : Addr} (h : SymAt lk a) : SymAt lk' a := let ⟨da, es, n, x, y⟩ := h; ⟨da, es, n, hl _ _ x, hl _ _ y⟩
inductive NK (lk : Addr → Obj → Prop) : Nat → List (Str × Value) → Prop
  | none : NK lk 0 [(Str.ofString "nil", .ref 64), (Str.ofString "t", .ref 67)]
  | a {sa : Addr} : SymAt lk sa → NK lk 1 [(Str.ofString "nil", .ref 64), (Str.ofString "t", .ref 67), (Str.ofString "a", .ref sa)]
  | b {sa : Addr} : SymAt lk sa → NK lk 1 [(Str.ofString "nil", .ref 64), (Str.ofString "t", .ref 67), (Str.ofString "b", .ref sa)]
  | ab {sa sb : Addr} : SymAt lk sa → SymAt lk sb → NK lk 2 [(Str.ofString "nil", .ref 64), (Str.ofString "t", .ref 67), (Str.ofString "a", .ref sa), (Str.ofString "b", .ref sb)]
  | ba {sa sb : Addr} : SymAt lk sa → SymAt lk sb → NK lk 2 [(Str.ofString "nil", .ref 64), (Str.ofString "t", .ref 67), (Str.ofString "b", .ref sa), (Str.ofString "a", .ref sb)]
theorem NK.mono {lk lk' : Addr → Obj → Prop} (hl : ∀ a o, lk a o → lk' a o) {c : Nat} {o : List (Str × Value)} (h : NK lk c o) : NK lk' c o := by
  cases h with
  | none => exact .none
  | a x => exact .a (x.mono hl)
  | b x => exact .b (x.mono hl)
  | ab x y => exact .ab (x.mono hl) (y.mono hl)
  | ba x y => exact .ba (x.mono hl) (y.mono hl)
def Nms (w : World) (lk : Addr → Obj → Prop) (c : Nat) (o : Obj) : Prop := ∃ kvs, o.IsDictOf (PySem.strKind PySem.Challenge.rw_np0028_01.row.prog w) kvs ∧ NK lk c kvs
theorem Nms.mono {w : World} {lk lk' : Addr → Obj → Prop} (hl : ∀ a o, lk a o → lk' a o) {c : Nat} {o : Obj} (h : Nms w lk c o) : Nms w lk' c o := let ⟨k, a, b⟩ := h; ⟨k, a, b.mono hl⟩
def Tab (w : World) (lk : Addr → Obj → Prop) (oR oN : Obj) : Prop := ∃ c, Rows (3 + c) oR ∧ Nms w lk c oN
theorem Tab.mono {w : World} {lk lk' : Addr → Obj → Prop} (hl : ∀ a o, lk a o → lk' a o) {oR oN : Obj} (h : Tab w lk oR oN) : Tab w lk' oR oN := let ⟨c, x, y⟩ := h; ⟨c, x, y.mono hl⟩
abbrev LK (lk : Addr → Obj → Prop) (nw : List (Addr × Obj)) (a : Addr) (o : Obj) : Prop := lk a o ∨ (a, o) ∈ nw
local macro_rules | `(tactic| walk_at "call ref") => `(tactic| (
  (with_reducible show wpAny _ _ (call (Value.ref 285) _) _ _ _);
  refine' fresh_spec ?k1 ?k2 ?k3 ?k4 ?k5 ?k6 ?k7 ?k8 ?_;
  (case k3 => assumption); (case k1 => exact gd1 (by assumption) (by k_asm) (by k_asm) (by k_updF)); (case k2 => exact lk1 (by k_asm) (by k_asm) (by k_updF) (by assumption)); (case k4 => exact get1 (by k_asm) (by k_updF)); (case k5 => assumption); (case k6 => omega); (case k7 => (try dsimp only); omega); (case k8 => (try dsimp only); omega);
  (intro a' nw' es' n' o' h' tk' hB' hnw' hr' hR' fr'; have FN' := after1 (by k_asm) (by k_asm) (by k_updF) fr' hR'; have BN' := born_news (by k_asm) (by k_asm) FN'.2 hB'; obtain ⟨F', _⟩ := FN'; obtain ⟨N', of'⟩ := BN'; subst hnw'; simp only [List.cons_append, List.nil_append] at N'; have ofs' := of'; simp only [List.forall_mem_cons, List.not_mem_nil, false_implies, implies_true, and_true] at ofs'; obtain ⟨⟨_, _⟩, _, _⟩ := ofs'; (try k_sweep); (try dsimp only at N'); (try dsimp only))))
set_option maxHeartbeats 8000000 in
theorem intern_a_spec {w : World} {outer : List Env} {s : Shared} {dp un : Nat} {gd : Option (List Code)} {lk : Addr → Obj → Prop} {tb R Nm : Addr} {oR oN : Obj} {t : Tok} {Q E : Value → Shared → Prop}
    (G : Gd w [R, Nm] outer s.heap) (hlk : ∀ a o, lk a o → (hideAll s.heap [R, Nm]).get? a = some o) (ht : Tbl w lk tb R Nm) (hne : @Ne Nat R Nm) (lo : (Nm == sysModules) = false) (hR : s.heap.get? R = some oR) (hNm : s.heap.get? Nm = some oN) (hT : Tab w lk oR oN) (hdp : dp + 8 < recursionLimit) (hun : un + 400 < cLine)
    (ret : ∀ a nw oR' oN' h' tk', Born s.heap h' nw → SymAt (LK lk nw) a → Tab w (LK lk nw) oR' oN' → h'.get? R = some oR' → h'.get? Nm = some oN' → Frame [R, Nm] s.heap h' → Q (.ref a) { s with heap := h', toks := tk' }) :
    wpAny (model PySem.Challenge.rw_np0028_01.row.prog w) (Ar dp un gd outer) (call (.ref 271) [.ref tb, .str (Str.ofString "a") t]) Q E s := by
  obtain ⟨c, hr, kvs, hd, hn⟩ := hT
  have ht' := ht
  obtain ⟨dT, q1, q2, g1, g2⟩ := ht
  replace g1 := hlk _ _ g1; replace g2 := hlk _ _ g2
  refine wpAny_call ?_
  refine enter (binds := [(Str.ofString "self", .ref tb), (Str.ofString "name", .str (Str.ofString "a") t)]) G (by omega) (by k_is) (by k_is) (BindsTo.of_eq rfl) (locs rfl) rfl rfl rfl (by decide) ?_
  intro base p loose mean mg mb h₁ tk₁ F hN B T
  have X := G.X
  have N := hN [(R, oR), (Nm, oN)] (by intro q hq; simp only [List.mem_cons, List.not_mem_nil, or_false] at hq ⊢; rcases hq with rfl | rfl; exact ⟨.inl rfl, hR⟩; exact ⟨.inr rfl, hNm⟩)
  clear hN B
  try k_fold
  have fin0 : ∀ a h' tk' m, SymAt lk a → Fr (hideAll s.heap [R, Nm]) s.heap.objs.size h' m → News (hideAll s.heap [R, Nm]) s.heap.objs.size h' [(R, oR), (Nm, oN)] → Nms w lk c oN → Q (.ref a) { s with heap := h', toks := tk' } := by
    intro a h' tk' m ha F N hn
    exact ret a [] oR oN h' tk' (fun _ h => (nomatch h)) (ha.mono fun _ _ z => .inl z) ⟨c, hr, hn.mono fun _ _ z => .inl z⟩ (News.get N (by k_mem)) (News.get N (by k_mem)) (Frame.of_Fr F)
  have fin1 : ∀ a n es oR' oN' kvs' h' tk' m, Fr (hideAll s.heap [R, Nm]) s.heap.objs.size h' m → News (hideAll s.heap [R, Nm]) s.heap.objs.size h' [(a, instObj 58 n), (n, dictOf es 2), (R, oR'), (Nm, oN')] → (∀ p ∈ [(a, instObj 58 n), (n, dictOf es 2)], ∀ q ∈ [(R, oR), (Nm, oN)], @Ne Nat p.1 q.1) → Rows (3 + c + 1) oR' →
      oN'.IsDictOf (PySem.strKind PySem.Challenge.rw_np0028_01.row.prog w) kvs' → (∀ lk', SymAt lk' a → (∀ a o, lk a o → lk' a o) → NK lk' (c + 1) kvs') → Q (.ref a) { s with heap := h', toks := tk' } := by
    intro a n es oR' oN' kvs' h' tk' m F N off hr' hd' hk
    have sa : SymAt (LK lk [(a, instObj 58 n), (n, dictOf es 2)]) a := ⟨n, es, 2, .inr List.mem_cons_self, .inr (List.mem_cons_of_mem _ List.mem_cons_self)⟩
    refine ret a [(a, instObj 58 n), (n, dictOf es 2)] oR' oN' h' tk' (born_W N ?_ ?_) sa ⟨c + 1, hr', kvs', hd', hk _ sa fun _ _ z => .inl z⟩ (News.get N (by k_mem)) (News.get N (by k_mem)) (Frame.of_Fr F)
    · intro p hp
      simp only [List.mem_cons, List.not_mem_nil, or_false] at hp ⊢
      rcases hp with rfl | rfl <;> simp
    · intro p hp q
      simp only [List.mem_cons, List.not_mem_nil, or_false] at q
      rcases q with q | q
      · exact off p hp (R, oR) List.mem_cons_self q
      · exact off p hp (Nm, oN) (List.mem_cons_of_mem _ List.mem_cons_self) q
  cases hn
  · k_steps
    refine fin1 _ _ _ _ _ _ _ _ _ (by k_asm) (by k_asm) (by assumption) (by assumption) (by assumption) ?_
    intro lk' sy up
    exact .a sy
  · k_steps
    exact fin0 _ _ _ _ (by assumption) (by k_asm) (by k_asm) ⟨_, hd, (.a (by assumption))⟩
  · k_steps
    refine fin1 _ _ _ _ _ _ _ _ _ (by k_asm) (by k_asm) (by assumption) (by assumption) (by assumption) ?_
    intro lk' sy up
    exact .ba (SymAt.mono up (by assumption)) sy
  · k_steps
    exact fin0 _ _ _ _ (by assumption) (by k_asm) (by k_asm) ⟨_, hd, (.ab (by assumption) (by assumption))⟩
  · k_steps
    exact fin0 _ _ _ _ (by assumption) (by k_asm) (by k_asm) ⟨_, hd, (.ba (by assumption) (by assumption))⟩
set_option maxHeartbeats 8000000 in
theorem intern_b_spec {w : World} {outer : List Env} {s : Shared} {dp un : Nat} {gd : Option (List Code)} {lk : Addr → Obj → Prop} {tb R Nm : Addr} {oR oN : Obj} {t : Tok} {Q E : Value → Shared → Prop}
    (G : Gd w [R, Nm] outer s.heap) (hlk : ∀ a o, lk a o → (hideAll s.heap [R, Nm]).get? a = some o) (ht : Tbl w lk tb R Nm) (hne : @Ne Nat R Nm) (lo : (Nm == sysModules) = false) (hR : s.heap.get? R = some oR) (hNm : s.heap.get? Nm = some oN) (hT : Tab w lk oR oN) (hdp : dp + 8 < recursionLimit) (hun : un + 400 < cLine)
    (ret : ∀ a nw oR' oN' h' tk', Born s.heap h' nw → SymAt (LK lk nw) a → Tab w (LK lk nw) oR' oN' → h'.get? R = some oR' → h'.get? Nm = some oN' → Frame [R, Nm] s.heap h' → Q (.ref a) { s with heap := h', toks := tk' }) :
    wpAny (model PySem.Challenge.rw_np0028_01.row.prog w) (Ar dp un gd outer) (call (.ref 271) [.ref tb, .str (Str.ofString "b") t]) Q E s := by
  obtain ⟨c, hr, kvs, hd, hn⟩ := hT
  have ht' := ht
  obtain ⟨dT, q1, q2, g1, g2⟩ := ht
  replace g1 := hlk _ _ g1; replace g2 := hlk _ _ g2
  refine wpAny_call ?_
  refine enter (binds := [(Str.ofString "self", .ref tb), (Str.ofString "name", .str (Str.ofString "b") t)]) G (by omega) (by k_is) (by k_is) (BindsTo.of_eq rfl) (locs rfl) rfl rfl rfl (by decide) ?_
  intro base p loose mean mg mb h₁ tk₁ F hN B T
  have X := G.X
  have N := hN [(R, oR), (Nm, oN)] (by intro q hq; simp only [List.mem_cons, List.not_mem_nil, or_false] at hq ⊢; rcases hq with rfl | rfl; exact ⟨.inl rfl, hR⟩; exact ⟨.inr rfl, hNm⟩)
  clear hN B
  try k_fold
  have fin0 : ∀ a h' tk' m, SymAt lk a → Fr (hideAll s.heap [R, Nm]) s.heap.objs.size h' m → News (hideAll s.heap [R, Nm]) s.heap.objs.size h' [(R, oR), (Nm, oN)] → Nms w lk c oN → Q (.ref a) { s with heap := h', toks := tk' } := by
    intro a h' tk' m ha F N hn
    exact ret a [] oR oN h' tk' (fun _ h => (nomatch h)) (ha.mono fun _ _ z => .inl z) ⟨c, hr, hn.mono fun _ _ z => .inl z⟩ (News.get N (by k_mem)) (News.get N (by k_mem)) (Frame.of_Fr F)
  have fin1 : ∀ a n es oR' oN' kvs' h' tk' m, Fr (hideAll s.heap [R, Nm]) s.heap.objs.size h' m → News (hideAll s.heap [R, Nm]) s.heap.objs.size h' [(a, instObj 58 n), (n, dictOf es 2), (R, oR'), (Nm, oN')] → (∀ p ∈ [(a, instObj 58 n), (n, dictOf es 2)], ∀ q ∈ [(R, oR), (Nm, oN)], @Ne Nat p.1 q.1) → Rows (3 + c + 1) oR' →
      oN'.IsDictOf (PySem.strKind PySem.Challenge.rw_np0028_01.row.prog w) kvs' → (∀ lk', SymAt lk' a → (∀ a o, lk a o → lk' a o) → NK lk' (c + 1) kvs') → Q (.ref a) { s with heap := h', toks := tk' } := by
    intro a n es oR' oN' kvs' h' tk' m F N off hr' hd' hk
    have sa : SymAt (LK lk [(a, instObj 58 n), (n, dictOf es 2)]) a := ⟨n, es, 2, .inr List.mem_cons_self, .inr (List.mem_cons_of_mem _ List.mem_cons_self)⟩
    refine ret a [(a, instObj 58 n), (n, dictOf es 2)] oR' oN' h' tk' (born_W N ?_ ?_) sa ⟨c + 1, hr', kvs', hd', hk _ sa fun _ _ z => .inl z⟩ (News.get N (by k_mem)) (News.get N (by k_mem)) (Frame.of_Fr F)
    · intro p hp
      simp only [List.mem_cons, List.not_mem_nil, or_false] at hp ⊢
      rcases hp with rfl | rfl <;> simp
    · intro p hp q
      simp only [List.mem_cons, List.not_mem_nil, or_false] at q
      rcases q with q | q
      · exact off p hp (R, oR) List.mem_cons_self q
      · exact off p hp (Nm, oN) (List.mem_cons_of_mem _ List.mem_cons_self) q
  cases hn
  · k_steps
    refine fin1 _ _ _ _ _ _ _ _ _ (by k_asm) (by k_asm) (by assumption) (by assumption) (by assumption) ?_
    intro lk' sy up
    exact .b sy
  · k_steps
    refine fin1 _ _ _ _ _ _ _ _ _ (by k_asm) (by k_asm) (by assumption) (by assumption) (by assumption) ?_
    intro lk' sy up
    exact .ab (SymAt.mono up (by assumption)) sy
  · k_steps
    exact fin0 _ _ _ _ (by assumption) (by k_asm) (by k_asm) ⟨_, hd, (.b (by assumption))⟩
  · k_steps
    exact fin0 _ _ _ _ (by assumption) (by k_asm) (by k_asm) ⟨_, hd, (.ab (by assumption) (by assumption))⟩
  · k_steps
    exact fin0 _ _ _ _ (by assumption) (by k_asm) (by k_asm) ⟨_, hd, (.ba (by assumption) (by assumption))⟩
end T11X

open PySem PySem.W PySem.Calls PyProof.Rows in
theorem rstMk {M : Model} {A : Around} {env : Env} {Q : Flow → Shared → Prop} {E : Value → Shared → Prop} {s : Shared} (h : Q Flow.next s) : wpAny M A (execs [] env) Q E s := by
  w_top off
  first | (walk1; exact h) | exact wpAny_execs_nil h
section MkX
open PySem PySem.W PySem.Calls PyProof.Rows
set_option Elab.async false
set_option maxRecDepth 100000
open PyProof.Rows.LCg
local macro_rules | `(tactic| k_all) => `(tactic| assumption)
set_option maxHeartbeats 8000000 in
theorem make_128 {w : World} {outer : List Env} {s : Shared} {dp un : Nat} {gd : Option (List Code)} {env : Env} {h₀ base : Heap} {L : Addr} {m mg mb : Str → Option Value} {news : List (Addr × Obj)} {p : Program} {loose : List Str} {mean : ExcName → Option Value} {v0 : Value} {Q E : Value → Shared → Prop}
    (B : Below (Ar dp un gd outer) base outer h₀) (F : Fr h₀ L s.heap m) (X : (hd.heap_1 w.params).In h₀) (N : News h₀ L s.heap news) (T : Top p loose mean mg mb h₀) (hf : env.frame = some L) (hke : env.scope.kind = .function) (hv0 : handedIn v0 = true) (hdp : dp + 6 < recursionLimit) (hun : un + 200 < cLine)
    (ret : ∀ x dx t0 h' tk', Fr h₀ L h' m → News h₀ L h' ((x, instObj 128 dx) :: (dx, dictOf [ent w "things" t0 v0] 1) :: news) → (∀ p ∈ news, @LT.lt Nat _ p.1 dx) → @LT.lt Nat _ dx x → Q (.ref x) { s with heap := h', toks := tk' }) :
    wpAny (model PySem.Challenge.rw_np0028_01.row.prog w) ((Ar dp un gd outer).deeper env) (call (.ref 128) [v0]) Q E s := by
  refine call_cls F X N (by k_is) (by k_is) (by k_is) ?_
  intro x dx h' F' N' l1 l2
  have l1' : ∀ p ∈ news, @LT.lt Nat _ p.1 dx := l1
  have hne : ∀ p ∈ news, p.1 ≠ dx := fun p hp => Nat.ne_of_lt (l1 p hp)
  have hne2 : ∀ p ∈ news, p.1 ≠ x := fun p hp => Nat.ne_of_lt (Nat.lt_trans (l1 p hp) l2)
  replace l2 := ltN l2
  clear l1 F N
  refine code_def B F' X N' T rfl hf hke (by k_is) (by k_is) (by k_room) (BindsTo.of_eq rfl) (locs rfl) ?_ rfl rfl rfl (by decide)
  intro g' L' h'' FG' F'' N'' B' X' T'
  clear F' N' X T B
  try dsimp only
  try k_lift B'
  try k_fold
  k_steps
  rename News _ _ _ _ => N9
  rename Fr _ _ _ _ => F9
  refine leaveK_ F9 N9 fun kF kN => ⟨rfl, ?_⟩
  exact ret x dx _ _ _ kF kN l1' l2
set_option maxHeartbeats 8000000 in
theorem make_149 {w : World} {outer : List Env} {s : Shared} {dp un : Nat} {gd : Option (List Code)} {env : Env} {h₀ base : Heap} {L : Addr} {m mg mb : Str → Option Value} {news : List (Addr × Obj)} {p : Program} {loose : List Str} {mean : ExcName → Option Value} {v0 : Value} {Q E : Value → Shared → Prop}
    (B : Below (Ar dp un gd outer) base outer h₀) (F : Fr h₀ L s.heap m) (X : (hd.heap_1 w.params).In h₀) (N : News h₀ L s.heap news) (T : Top p loose mean mg mb h₀) (hf : env.frame = some L) (hke : env.scope.kind = .function) (hv0 : handedIn v0 = true) (hdp : dp + 6 < recursionLimit) (hun : un + 200 < cLine)
    (ret : ∀ x dx t0 h' tk', Fr h₀ L h' m → News h₀ L h' ((x, instObj 149 dx) :: (dx, dictOf [ent w "things" t0 v0] 1) :: news) → (∀ p ∈ news, @LT.lt Nat _ p.1 dx) → @LT.lt Nat _ dx x → Q (.ref x) { s with heap := h', toks := tk' }) :
    wpAny (model PySem.Challenge.rw_np0028_01.row.prog w) ((Ar dp un gd outer).deeper env) (call (.ref 149) [v0]) Q E s := by
  refine call_cls F X N (by k_is) (by k_is) (by k_is) ?_
  intro x dx h' F' N' l1 l2
  have l1' : ∀ p ∈ news, @LT.lt Nat _ p.1 dx := l1
  have hne : ∀ p ∈ news, p.1 ≠ dx := fun p hp => Nat.ne_of_lt (l1 p hp)
  have hne2 : ∀ p ∈ news, p.1 ≠ x := fun p hp => Nat.ne_of_lt (Nat.lt_trans (l1 p hp) l2)
  replace l2 := ltN l2
  clear l1 F N
  refine code_def B F' X N' T rfl hf hke (by k_is) (by k_is) (by k_room) (BindsTo.of_eq rfl) (locs rfl) ?_ rfl rfl rfl (by decide)
  intro g' L' h'' FG' F'' N'' B' X' T'
  clear F' N' X T B
  try dsimp only
  try k_lift B'
  try k_fold
  k_steps
  rename News _ _ _ _ => N9
  rename Fr _ _ _ _ => F9
  refine leaveK_ F9 N9 fun kF kN => ⟨rfl, ?_⟩
  exact ret x dx _ _ _ kF kN l1' l2
set_option maxHeartbeats 8000000 in
theorem make_85 {w : World} {outer : List Env} {s : Shared} {dp un : Nat} {gd : Option (List Code)} {env : Env} {h₀ base : Heap} {L : Addr} {m mg mb : Str → Option Value} {news : List (Addr × Obj)} {p : Program} {loose : List Str} {mean : ExcName → Option Value} {v0 v1 : Value} {Q E : Value → Shared → Prop}
    (B : Below (Ar dp un gd outer) base outer h₀) (F : Fr h₀ L s.heap m) (X : (hd.heap_1 w.params).In h₀) (N : News h₀ L s.heap news) (T : Top p loose mean mg mb h₀) (hf : env.frame = some L) (hke : env.scope.kind = .function) (hv0 : handedIn v0 = true) (hv1 : handedIn v1 = true) (hdp : dp + 6 < recursionLimit) (hun : un + 200 < cLine)
    (ret : ∀ x dx t0 t1 h' tk', Fr h₀ L h' m → News h₀ L h' ((x, instObj 85 dx) :: (dx, dictOf [ent w "car" t0 v0, ent w "cdr" t1 v1] 2) :: news) → (∀ p ∈ news, @LT.lt Nat _ p.1 dx) → @LT.lt Nat _ dx x → Q (.ref x) { s with heap := h', toks := tk' }) :
    wpAny (model PySem.Challenge.rw_np0028_01.row.prog w) ((Ar dp un gd outer).deeper env) (call (.ref 85) [v0, v1]) Q E s := by
  refine call_cls F X N (by k_is) (by k_is) (by k_is) ?_
  intro x dx h' F' N' l1 l2
  have l1' : ∀ p ∈ news, @LT.lt Nat _ p.1 dx := l1
  have hne : ∀ p ∈ news, p.1 ≠ dx := fun p hp => Nat.ne_of_lt (l1 p hp)
  have hne2 : ∀ p ∈ news, p.1 ≠ x := fun p hp => Nat.ne_of_lt (Nat.lt_trans (l1 p hp) l2)
  replace l2 := ltN l2
  clear l1 F N
  refine code_def B F' X N' T rfl hf hke (by k_is) (by k_is) (by k_room) (BindsTo.of_eq rfl) (locs rfl) ?_ rfl rfl rfl (by decide)
  intro g' L' h'' FG' F'' N'' B' X' T'
  clear F' N' X T B
  try dsimp only
  try k_lift B'
  try k_fold
  k_steps
  rename News _ _ _ _ => N9
  rename Fr _ _ _ _ => F9
  refine leaveK_ F9 N9 fun kF kN => ⟨rfl, ?_⟩
  exact ret x dx _ _ _ _ kF kN l1' l2
set_option maxHeartbeats 8000000 in
theorem make_107 {w : World} {outer : List Env} {s : Shared} {dp un : Nat} {gd : Option (List Code)} {env : Env} {h₀ base : Heap} {L : Addr} {m mg mb : Str → Option Value} {news : List (Addr × Obj)} {p : Program} {loose : List Str} {mean : ExcName → Option Value} {v0 v1 : Value} {Q E : Value → Shared → Prop}
    (B : Below (Ar dp un gd outer) base outer h₀) (F : Fr h₀ L s.heap m) (X : (hd.heap_1 w.params).In h₀) (N : News h₀ L s.heap news) (T : Top p loose mean mg mb h₀) (hf : env.frame = some L) (hke : env.scope.kind = .function) (hv0 : handedIn v0 = true) (hv1 : handedIn v1 = true) (hdp : dp + 6 < recursionLimit) (hun : un + 200 < cLine)
    (ret : ∀ x dx t0 t1 h' tk', Fr h₀ L h' m → News h₀ L h' ((x, instObj 107 dx) :: (dx, dictOf [ent w "codes" t0 v0, ent w "spans" t1 v1] 2) :: news) → (∀ p ∈ news, @LT.lt Nat _ p.1 dx) → @LT.lt Nat _ dx x → Q (.ref x) { s with heap := h', toks := tk' }) :
    wpAny (model PySem.Challenge.rw_np0028_01.row.prog w) ((Ar dp un gd outer).deeper env) (call (.ref 107) [v0, v1]) Q E s := by
  refine call_cls F X N (by k_is) (by k_is) (by k_is) ?_
  intro x dx h' F' N' l1 l2
  have l1' : ∀ p ∈ news, @LT.lt Nat _ p.1 dx := l1
  have hne : ∀ p ∈ news, p.1 ≠ dx := fun p hp => Nat.ne_of_lt (l1 p hp)
  have hne2 : ∀ p ∈ news, p.1 ≠ x := fun p hp => Nat.ne_of_lt (Nat.lt_trans (l1 p hp) l2)
  replace l2 := ltN l2
  clear l1 F N
  refine' code_def B F' X N' T rfl hf hke ?k6 ?k7 ?k8 ?k9 ?kB ?_ ?c2 ?c3 ?c4 ?c5; (case k6 => k_is); (case k7 => k_is); (case k8 => k_room); (case k9 => exact binds_K (by k_in) rfl (by k_is) rfl rfl rfl); (case c5 => decide); (case kB => exact locs rfl); (case c2 => exact rfl); (case c3 => exact rfl); (case c4 => exact rfl)
  intro g' L' h'' FG' F'' N'' B' X' T'
  clear F' N' X T B
  try dsimp only
  try k_lift B'
  try k_fold
  k_steps
  rename News _ _ _ _ => N9
  rename Fr _ _ _ _ => F9
  refine leaveK_ F9 N9 fun kF kN => ⟨rfl, ?_⟩
  exact ret x dx _ _ _ _ kF kN l1' l2
end MkX

open PySem PySem.W PySem.Calls PyProof.Rows in
theorem rstT12 {M : Model} {A : Around} {env : Env} {Q : Flow → Shared → Prop} {E : Value → Shared → Prop} {s : Shared} (h : Q Flow.next s) : wpAny M A (execs [] env) Q E s := by
  w_top off
  first | (walk1; exact h) | exact wpAny_execs_nil h
section T12X
open PySem PySem.W PySem.Calls PyProof.Rows
set_option Elab.async false
set_option maxRecDepth 100000
local macro_rules | `(tactic| walk_at "call ref") => `(tactic| (
  (with_reducible show wpAny _ _ (call (Value.ref 85) _) _ _ _);
  refine' make_85 ?B ?F ?X ?N ?T ?f ?k ?h0 ?h1 ?d ?u ?_; (case B => exact (PLift.down (by assumption))); (case F => k_asm); (case X => assumption); (case N => k_asm); (case T => k_asm); (case f => exact rfl); (case k => exact rfl); (case h0 => k_handed); (case h1 => k_handed); (case d => units_room); (case u => units_room);
  (intro x' dx' t0' t1' h' tk' F' N' l1' l2'; (try k_lt l1'); (try k_sweep); (try dsimp only))))
theorem depC {x y m k : Nat} (h : x ≤ m) (h' : y ≤ m + k) : max x y + 1 ≤ m + (k + 1) := Nat.succ_le_succ (Nat.max_le.mpr ⟨Nat.le_trans h (Nat.le_add_right m k), h'⟩)
set_option maxHeartbeats 8000000 in
theorem list_of_spec {w : World} {outer : List Env} {s : Shared} {dp un : Nat} {gd : Option (List Code)} {lk : Addr → Obj → Prop} {l : DL} {e : D} {x : Addr} {n : Nat} {vs : List Value} {u : Value} {Q E : Value → Shared → Prop}
    (G : Gd w [] outer s.heap) (hlk : ∀ a o, lk a o → (hideAll s.heap []).get? a = some o) (hx : s.heap.get? x = some (PySem.W.listOf (List.toArray vs) n)) (hl : Ats w lk l vs) (hlen : l.len ≤ 3) (he : At w lk e u) (hdp : dp + 8 < recursionLimit) (hun : un + 400 < cLine)
    (ret : ∀ d v nw h' tk', Born s.heap h' nw → At w (LK lk nw) d v → d.size ≤ l.size + l.len + e.size → d.depth ≤ max l.depth e.depth + l.len → Frame [] s.heap h' → ((l = .nil ∧ v = u) ∨ ∃ a, v = .ref a) → Q v { s with heap := h', toks := tk' }) :
    wpAny (model PySem.Challenge.rw_np0028_01.row.prog w) (Ar dp un gd outer) (call (.ref 196) [.ref x, u]) Q E s := by
  have hx' := hide_up hx
  have r0 := he.handed
  refine wpAny_call ?_
  refine enter (binds := [(Str.ofString "things", .ref x), (Str.ofString "tail", u)]) G (by omega) (by k_is) (by k_is) (binds_K (fun b o e => of_hideAll [] (G.X b o e)) rfl (by k_is) rfl rfl rfl) (locs rfl) rfl rfl rfl (by decide) ?_
  intro base p loose mean mg mb h₁ tk₁ F hN B T
  have hB := PLift.up B
  clear B
  have X := G.X
  have N := hN [] (fun _ hq => nomatch hq)
  clear hN
  try k_fold
  cases l with
  | nil =>
    simp only [Ats] at hl; subst hl
    have hxl : (hideAll s.heap []).IsList x _ := ⟨_, hx', rfl, n, rfl⟩
    k_steps
    exact ret e u [] _ _ (fun _ h => (nomatch h)) (he.mono fun _ _ z => .inl z) (by simp [DL.size, DL.len]) (by simp [DL.depth, DL.len]) (Frame.of_Fr (by assumption)) (.inl ⟨rfl, rfl⟩)
  | cons d1 l =>
  simp only [Ats] at hl
  obtain ⟨v1, r1, rfl, a1, hl⟩ := hl
  have b1 := a1.handed
  cases l with
  | nil =>
    simp only [Ats] at hl; subst hl
    have hxl : (hideAll s.heap []).IsList x _ := ⟨_, hx', rfl, n, rfl⟩
    k_steps
    rename IsRange _ _ _ _ _ _ _ _ => hr9
    have hr9' : IsRange _ _ (0:Int) (-1) (-1) _ _ _ := hr9
    clear hr9
    rename Fr _ _ _ _ => lF'
    rename News _ _ _ _ => lN'
    with_unfolding_all refine krs_iter (n := 1) (by rfl) hr9' (show Builtin.Range.small (0:Int) (-1) (-1) = true by decide) (show Builtin.Range.rangeSize (0:Int) (-1) (-1) = ((1:Nat):Int) by decide) lF' lN' ?_
    clear lF' lN'
    intro i' l1
    try k_lt l1
    have fin : ∀ c1 e1 t1 s1 h' tk' m, Fr (hideAll s.heap []) s.heap.objs.size h' m → News (hideAll s.heap []) s.heap.objs.size h' [(c1, instObj 85 e1), (e1, dictOf [ent w "car" t1 v1, ent w "cdr" s1 (u)] 2)] → Q (.ref c1) { s with heap := h', toks := tk' } := by
      intro c1 e1 t1 s1 h' tk' m F N
      refine ret (D.cons c1 d1 e) (.ref c1) _ h' tk' (born_of N fun p hp => hp) ?_ ?_ ?_ (Frame.of_Fr F) (.inr ⟨_, rfl⟩)
      · simp only [At]
        exact ⟨trivial, e1, v1, u, t1, s1, .inr List.mem_cons_self, .inr (List.mem_cons_of_mem _ List.mem_cons_self), a1.mono fun _ _ z => .inl z, (he.mono fun _ _ z => .inl z)⟩
      · simp only [D.size, DL.size, DL.len]; omega
      · simp only [D.depth, DL.depth, DL.len]; exact depC (Nat.le_trans (Nat.le_max_left _ _) (Nat.le_max_left _ _)) (Nat.le_max_right _ _)
    k_steps
    exact fin _ _ _ _ _ _ _ (by k_asm) (by k_asm)
  | cons d2 l =>
  simp only [Ats] at hl
  obtain ⟨v2, r2, rfl, a2, hl⟩ := hl
  have b2 := a2.handed
  cases l with
  | nil =>
    simp only [Ats] at hl; subst hl
    have hxl : (hideAll s.heap []).IsList x _ := ⟨_, hx', rfl, n, rfl⟩
    k_steps
    rename IsRange _ _ _ _ _ _ _ _ => hr9
    have hr9' : IsRange _ _ (1:Int) (-1) (-1) _ _ _ := hr9
    clear hr9
    rename Fr _ _ _ _ => lF'
    rename News _ _ _ _ => lN'
    with_unfolding_all refine krs_iter (n := 2) (by rfl) hr9' (show Builtin.Range.small (1:Int) (-1) (-1) = true by decide) (show Builtin.Range.rangeSize (1:Int) (-1) (-1) = ((2:Nat):Int) by decide) lF' lN' ?_
    clear lF' lN'
    intro i' l1
    try k_lt l1
    have fin : ∀ c1 e1 t1 s1 c2 e2 t2 s2 h' tk' m, Fr (hideAll s.heap []) s.heap.objs.size h' m → News (hideAll s.heap []) s.heap.objs.size h' [(c1, instObj 85 e1), (e1, dictOf [ent w "car" t1 v1, ent w "cdr" s1 (.ref c2)] 2), (c2, instObj 85 e2), (e2, dictOf [ent w "car" t2 v2, ent w "cdr" s2 (u)] 2)] → Q (.ref c1) { s with heap := h', toks := tk' } := by
      intro c1 e1 t1 s1 c2 e2 t2 s2 h' tk' m F N
      refine ret (D.cons c1 d1 (D.cons c2 d2 e)) (.ref c1) _ h' tk' (born_of N fun p hp => hp) ?_ ?_ ?_ (Frame.of_Fr F) (.inr ⟨_, rfl⟩)
      · simp only [At]
        exact ⟨trivial, e1, v1, .ref c2, t1, s1, .inr List.mem_cons_self, .inr (List.mem_cons_of_mem _ List.mem_cons_self), a1.mono fun _ _ z => .inl z, ⟨rfl, e2, v2, u, t2, s2, .inr (List.mem_cons_of_mem _ (List.mem_cons_of_mem _ List.mem_cons_self)), .inr (List.mem_cons_of_mem _ (List.mem_cons_of_mem _ (List.mem_cons_of_mem _ List.mem_cons_self))), a2.mono fun _ _ z => .inl z, (he.mono fun _ _ z => .inl z)⟩⟩
      · simp only [D.size, DL.size, DL.len]; omega
      · simp only [D.depth, DL.depth, DL.len]; exact depC (Nat.le_trans (Nat.le_max_left _ _) (Nat.le_max_left _ _)) (depC (Nat.le_trans (Nat.le_trans (Nat.le_max_left _ _) (Nat.le_max_right _ _)) (Nat.le_max_left _ _)) (Nat.le_max_right _ _))
    k_steps
    exact fin _ _ _ _ _ _ _ _ _ _ _ (by k_asm) (by k_asm)
  | cons d3 l =>
  simp only [Ats] at hl
  obtain ⟨v3, r3, rfl, a3, hl⟩ := hl
  have b3 := a3.handed
  cases l with
  | cons d4 l => simp only [DL.len] at hlen; omega
  | nil =>
    simp only [Ats] at hl; subst hl
    have hxl : (hideAll s.heap []).IsList x _ := ⟨_, hx', rfl, n, rfl⟩
    k_steps
    rename IsRange _ _ _ _ _ _ _ _ => hr9
    have hr9' : IsRange _ _ (2:Int) (-1) (-1) _ _ _ := hr9
    clear hr9
    rename Fr _ _ _ _ => lF'
    rename News _ _ _ _ => lN'
    with_unfolding_all refine krs_iter (n := 3) (by rfl) hr9' (show Builtin.Range.small (2:Int) (-1) (-1) = true by decide) (show Builtin.Range.rangeSize (2:Int) (-1) (-1) = ((3:Nat):Int) by decide) lF' lN' ?_
    clear lF' lN'
    intro i' l1
    try k_lt l1
    have fin : ∀ c1 e1 t1 s1 c2 e2 t2 s2 c3 e3 t3 s3 h' tk' m, Fr (hideAll s.heap []) s.heap.objs.size h' m → News (hideAll s.heap []) s.heap.objs.size h' [(c1, instObj 85 e1), (e1, dictOf [ent w "car" t1 v1, ent w "cdr" s1 (.ref c2)] 2), (c2, instObj 85 e2), (e2, dictOf [ent w "car" t2 v2, ent w "cdr" s2 (.ref c3)] 2), (c3, instObj 85 e3), (e3, dictOf [ent w "car" t3 v3, ent w "cdr" s3 (u)] 2)] → Q (.ref c1) { s with heap := h', toks := tk' } := by
      intro c1 e1 t1 s1 c2 e2 t2 s2 c3 e3 t3 s3 h' tk' m F N
      refine ret (D.cons c1 d1 (D.cons c2 d2 (D.cons c3 d3 e))) (.ref c1) _ h' tk' (born_of N fun p hp => hp) ?_ ?_ ?_ (Frame.of_Fr F) (.inr ⟨_, rfl⟩)
      · simp only [At]
        exact ⟨trivial, e1, v1, .ref c2, t1, s1, .inr List.mem_cons_self, .inr (List.mem_cons_of_mem _ List.mem_cons_self), a1.mono fun _ _ z => .inl z, ⟨rfl, e2, v2, .ref c3, t2, s2, .inr (List.mem_cons_of_mem _ (List.mem_cons_of_mem _ List.mem_cons_self)), .inr (List.mem_cons_of_mem _ (List.mem_cons_of_mem _ (List.mem_cons_of_mem _ List.mem_cons_self))), a2.mono fun _ _ z => .inl z, ⟨rfl, e3, v3, u, t3, s3, .inr (List.mem_cons_of_mem _ (List.mem_cons_of_mem _ (List.mem_cons_of_mem _ (List.mem_cons_of_mem _ List.mem_cons_self)))), .inr (List.mem_cons_of_mem _ (List.mem_cons_of_mem _ (List.mem_cons_of_mem _ (List.mem_cons_of_mem _ (List.mem_cons_of_mem _ List.mem_cons_self))))), a3.mono fun _ _ z => .inl z, (he.mono fun _ _ z => .inl z)⟩⟩⟩
      · simp only [D.size, DL.size, DL.len]; omega
      · simp only [D.depth, DL.depth, DL.len]; exact depC (Nat.le_trans (Nat.le_max_left _ _) (Nat.le_max_left _ _)) (depC (Nat.le_trans (Nat.le_trans (Nat.le_max_left _ _) (Nat.le_max_right _ _)) (Nat.le_max_left _ _)) (depC (Nat.le_trans (Nat.le_trans (Nat.le_trans (Nat.le_max_left _ _) (Nat.le_max_right _ _)) (Nat.le_max_right _ _)) (Nat.le_max_left _ _)) (Nat.le_max_right _ _)))
    k_steps
    exact fin _ _ _ _ _ _ _ _ _ _ _ _ _ _ _ (by k_asm) (by k_asm)
end T12X

open PySem PySem.W PySem.Calls PyProof.Rows in
theorem rstT13 {M : Model} {A : Around} {env : Env} {Q : Flow → Shared → Prop} {E : Value → Shared → Prop} {s : Shared} (h : Q Flow.next s) : wpAny M A (execs [] env) Q E s := by
  w_top off
  first | (walk1; exact h) | exact wpAny_execs_nil h
section T13X
open PySem PySem.W PySem.Calls PyProof.Rows
set_option Elab.async false
set_option maxRecDepth 100000
open PyProof.Rows.LCg
structure Wd (w : World) (lk : Addr → Obj → Prop) (K R Nm tb tw : Addr) : Prop where
  tbl : Tbl w lk tb R Nm
  tws : SymAt lk tw
  nil : SymAt lk 64
  KR : @Ne Nat K R
  KN : @Ne Nat K Nm
  RN : @Ne Nat R Nm
  lo : (Nm == sysModules) = false
theorem Wd.mono {w : World} {lk lk' : Addr → Obj → Prop} (hl : ∀ a o, lk a o → lk' a o) {K R Nm tb tw : Addr} (h : Wd w lk K R Nm tb tw) : Wd w lk' K R Nm tb tw :=
  ⟨let ⟨dT, t1, t2, x, y⟩ := h.tbl; ⟨dT, t1, t2, hl _ _ x, hl _ _ y⟩, h.tws.mono hl, h.nil.mono hl, h.KR, h.KN, h.RN, h.lo⟩
theorem prA0 { q r : Prop} (h : q ∧ r) : q := h.1
theorem prA1 {p0 q r : Prop} (h : p0 ∧ q ∧ r) : q := h.2.1
theorem prB1 {p0 q : Prop} (h : p0 ∧ q) : q := h.2
theorem prA2 {p0 p1 q r : Prop} (h : p0 ∧ p1 ∧ q ∧ r) : q := h.2.2.1
theorem prB2 {p0 p1 q : Prop} (h : p0 ∧ p1 ∧ q) : q := h.2.2
theorem prA3 {p0 p1 p2 q r : Prop} (h : p0 ∧ p1 ∧ p2 ∧ q ∧ r) : q := h.2.2.2.1
theorem prB3 {p0 p1 p2 q : Prop} (h : p0 ∧ p1 ∧ p2 ∧ q) : q := h.2.2.2
theorem prA4 {p0 p1 p2 p3 q r : Prop} (h : p0 ∧ p1 ∧ p2 ∧ p3 ∧ q ∧ r) : q := h.2.2.2.2.1
theorem prB4 {p0 p1 p2 p3 q : Prop} (h : p0 ∧ p1 ∧ p2 ∧ p3 ∧ q) : q := h.2.2.2.2
theorem prA5 {p0 p1 p2 p3 p4 q r : Prop} (h : p0 ∧ p1 ∧ p2 ∧ p3 ∧ p4 ∧ q ∧ r) : q := h.2.2.2.2.2.1
theorem prB5 {p0 p1 p2 p3 p4 q : Prop} (h : p0 ∧ p1 ∧ p2 ∧ p3 ∧ p4 ∧ q) : q := h.2.2.2.2.2
theorem prA6 {p0 p1 p2 p3 p4 p5 q r : Prop} (h : p0 ∧ p1 ∧ p2 ∧ p3 ∧ p4 ∧ p5 ∧ q ∧ r) : q := h.2.2.2.2.2.2.1
theorem prB6 {p0 p1 p2 p3 p4 p5 q : Prop} (h : p0 ∧ p1 ∧ p2 ∧ p3 ∧ p4 ∧ p5 ∧ q) : q := h.2.2.2.2.2.2
theorem prA7 {p0 p1 p2 p3 p4 p5 p6 q r : Prop} (h : p0 ∧ p1 ∧ p2 ∧ p3 ∧ p4 ∧ p5 ∧ p6 ∧ q ∧ r) : q := h.2.2.2.2.2.2.2.1
theorem prB7 {p0 p1 p2 p3 p4 p5 p6 q : Prop} (h : p0 ∧ p1 ∧ p2 ∧ p3 ∧ p4 ∧ p5 ∧ p6 ∧ q) : q := h.2.2.2.2.2.2.2
theorem prA8 {p0 p1 p2 p3 p4 p5 p6 p7 q r : Prop} (h : p0 ∧ p1 ∧ p2 ∧ p3 ∧ p4 ∧ p5 ∧ p6 ∧ p7 ∧ q ∧ r) : q := h.2.2.2.2.2.2.2.2.1
theorem prB8 {p0 p1 p2 p3 p4 p5 p6 p7 q : Prop} (h : p0 ∧ p1 ∧ p2 ∧ p3 ∧ p4 ∧ p5 ∧ p6 ∧ p7 ∧ q) : q := h.2.2.2.2.2.2.2.2
theorem prA9 {p0 p1 p2 p3 p4 p5 p6 p7 p8 q r : Prop} (h : p0 ∧ p1 ∧ p2 ∧ p3 ∧ p4 ∧ p5 ∧ p6 ∧ p7 ∧ p8 ∧ q ∧ r) : q := h.2.2.2.2.2.2.2.2.2.1
theorem prB9 {p0 p1 p2 p3 p4 p5 p6 p7 p8 q : Prop} (h : p0 ∧ p1 ∧ p2 ∧ p3 ∧ p4 ∧ p5 ∧ p6 ∧ p7 ∧ p8 ∧ q) : q := h.2.2.2.2.2.2.2.2.2
theorem prA10 {p0 p1 p2 p3 p4 p5 p6 p7 p8 p9 q r : Prop} (h : p0 ∧ p1 ∧ p2 ∧ p3 ∧ p4 ∧ p5 ∧ p6 ∧ p7 ∧ p8 ∧ p9 ∧ q ∧ r) : q := h.2.2.2.2.2.2.2.2.2.2.1
theorem prB10 {p0 p1 p2 p3 p4 p5 p6 p7 p8 p9 q : Prop} (h : p0 ∧ p1 ∧ p2 ∧ p3 ∧ p4 ∧ p5 ∧ p6 ∧ p7 ∧ p8 ∧ p9 ∧ q) : q := h.2.2.2.2.2.2.2.2.2.2
theorem prA11 {p0 p1 p2 p3 p4 p5 p6 p7 p8 p9 p10 q r : Prop} (h : p0 ∧ p1 ∧ p2 ∧ p3 ∧ p4 ∧ p5 ∧ p6 ∧ p7 ∧ p8 ∧ p9 ∧ p10 ∧ q ∧ r) : q := h.2.2.2.2.2.2.2.2.2.2.2.1
theorem prB11 {p0 p1 p2 p3 p4 p5 p6 p7 p8 p9 p10 q : Prop} (h : p0 ∧ p1 ∧ p2 ∧ p3 ∧ p4 ∧ p5 ∧ p6 ∧ p7 ∧ p8 ∧ p9 ∧ p10 ∧ q) : q := h.2.2.2.2.2.2.2.2.2.2.2
theorem prA12 {p0 p1 p2 p3 p4 p5 p6 p7 p8 p9 p10 p11 q r : Prop} (h : p0 ∧ p1 ∧ p2 ∧ p3 ∧ p4 ∧ p5 ∧ p6 ∧ p7 ∧ p8 ∧ p9 ∧ p10 ∧ p11 ∧ q ∧ r) : q := h.2.2.2.2.2.2.2.2.2.2.2.2.1
theorem prB12 {p0 p1 p2 p3 p4 p5 p6 p7 p8 p9 p10 p11 q : Prop} (h : p0 ∧ p1 ∧ p2 ∧ p3 ∧ p4 ∧ p5 ∧ p6 ∧ p7 ∧ p8 ∧ p9 ∧ p10 ∧ p11 ∧ q) : q := h.2.2.2.2.2.2.2.2.2.2.2.2
theorem of_one {k : Int} (a : 0 ≤ k) (b : k < 1) : k = 0 ∨ False := by omega
theorem of_two {k : Int} (a : 0 ≤ k) (b : k < 2) : k = 0 ∨ k = 1 := by omega
theorem of_three {k : Int} (a : 0 ≤ k) (b : k < 3) : k = 0 ∨ k = 1 ∨ k = 2 := by omega
theorem of_four {k : Int} (a : 0 ≤ k) (b : k < 4) : k = 0 ∨ k = 1 ∨ k = 2 ∨ k = 3 := by omega
theorem lkW {g h : Heap} {L : Addr} {m : Str → Option Value} {news tl : List (Addr × Obj)} {W' : List Addr} {lk : Addr → Obj → Prop} (F : Fr g L h m) (N : News g L h news) (hl : ∀ a o, lk a o → g.get? a = some o) (ht : ∀ p ∈ tl, p ∈ news) (off : ∀ p ∈ tl, p.1 ∉ W') (hW : ∀ a ∈ W', g.get? a = none) :
    ∀ a o, LK lk tl a o → (hideAll h W').get? a = some o := by
  intro a o e
  rcases e with e | e
  · exact hideAll_get _ (F.keep _ _ (hl a o e)) fun q => by have := hl a o e; rw [hW a q] at this; cases this
  · exact hideAll_get _ (N _ (ht _ e)).1 (off _ e)
theorem after2 {g h h' : Heap} {L x y : Addr} {o o' p p' : Obj} {m : Str → Option Value} {news : List (Addr × Obj)} {f : Obj → List (Addr × Obj)} {f2 : Obj → Obj → List (Addr × Obj)} (F : Fr g L h m) (N : News g L h news) (U : UpdF x o news f) (U2 : ∀ q, UpdF y p (f q) (f2 q)) (fr : Frame [x, y] h h') (hx : h'.get? x = some o') (hy : h'.get? y = some p') :
    Fr g L h' m ∧ News g L h' (f2 o' p') := by
  obtain ⟨pre, post, rfl, hf, h1, h2⟩ := U.split
  obtain ⟨pre', post', e1, hf2, h3, h4⟩ := (U2 o').split
  have hxo := N (x, o) (List.mem_append_right _ List.mem_cons_self)
  have hyo : y ≠ L ∧ g.get? y = none := by
    obtain ⟨pr, po, e3, _, _, _⟩ := (U2 o).split
    have : (y, p) ∈ pre ++ (x, o) :: post := by rw [← hf o, e3]; exact List.mem_append_right _ List.mem_cons_self
    exact (N _ this).2
  obtain ⟨oL, es, ep, hL, r⟩ := F.ns
  refine ⟨⟨⟨oL, es, ep, fr _ _ (fun q => ?_) hL, r⟩, fun b o e => fr _ _ (fun q => ?_) (F.keep b o e), F.above⟩, ?_⟩
  · simp only [List.mem_cons, List.not_mem_nil, or_false] at q
    rcases q with q | q
    · exact hxo.2.1 q.symm
    · exact hyo.1 q.symm
  · simp only [List.mem_cons, List.not_mem_nil, or_false] at q
    rcases q with q | q
    · rw [q, hxo.2.2] at e; cases e
    · rw [q, hyo.2] at e; cases e
  · rw [hf2]
    have key : ∀ z ∈ f o', z.1 ≠ y → h'.get? z.1 = some z.2 ∧ z.1 ≠ L ∧ g.get? z.1 = none := by
      intro z hz hzy
      rw [hf] at hz
      rcases List.mem_append.mp hz with hz | hz
      · have w := N z (List.mem_append_left _ hz)
        exact ⟨fr _ _ (fun q => by simp only [List.mem_cons, List.not_mem_nil, or_false] at q; exact q.elim (h1 z hz) hzy) w.1, w.2⟩
      rcases List.mem_cons.mp hz with rfl | hz
      · exact ⟨hx, hxo.2⟩
      · have w := N z (List.mem_append_right _ (List.mem_cons_of_mem _ hz))
        exact ⟨fr _ _ (fun q => by simp only [List.mem_cons, List.not_mem_nil, or_false] at q; exact q.elim (h2 z hz) hzy) w.1, w.2⟩
    intro z hz
    rcases List.mem_append.mp hz with hz | hz
    · exact key z (by rw [e1]; exact List.mem_append_left _ hz) (h3 z hz)
    rcases List.mem_cons.mp hz with rfl | hz
    · exact ⟨hy, hyo⟩
    · exact key z (by rw [e1]; exact List.mem_append_right _ (List.mem_cons_of_mem _ hz)) (h4 z hz)
theorem gsrc_range {prog : Program} {w : World} {A : Around} {E : Value → Shared → Prop} {s : Shared} {env : Env} {elt : PySem.Expr} {ifs : List PySem.Expr} {scope : Scope} {V : Env → Option Value → List (Addr × Obj) → Prop} {RR : Value → Addr → Result → Shared → Prop} {r : Addr} {n : Nat} {t₀ u₀ v₀ : Tok} {h₀ : Heap} {L : Addr} {m : Str → Option Value} {ws news : List (Addr × Obj)} (Good : GoodT)
    (hh : A.handled = none) (hr : IsRange s.heap r 0 n 1 t₀ u₀ v₀) (hsmall : Builtin.Range.small 0 n 1 = true) (hn : Builtin.Range.rangeSize 0 n 1 = (n : Int)) (hsz : n ≤ sizeLine) (F : Fr h₀ L s.heap m) (N : News h₀ L s.heap (ws ++ news)) (hnws : ∀ p ∈ news, p.1 ∉ ws.map (·.1)) (G0 : Good 0 [] [] ws)
    (turn : ∀ h, GTurn prog w A env elt ifs scope V { s with heap := h } h₀ L m ws news s.heap (fun i v => ∃ t, v = .int i t) n Good)
    (fin : ∀ h, GFin RR { s with heap := h } h₀ L m ws news s.heap n Good) : wpAny (model prog w) A (pyIter (.ref r)) (GSrc prog w A env elt ifs scope V RR) E s := by
  refine wpAny_pyIter_range hr hsmall ?_
  have up : ∀ oo, Grow s.heap (s.heap.push oo) := fun oo b o e => Heap.get?_push_of_some _ e
  refine ⟨s.heap.objs.size, [s.heap.objs.size], n, (fun i v => ∃ t, v = .int i t), (fun i h => IsRangeIter h s.heap.objs.size (0 + (i : Nat) * 1) ((n : Int) - (i : Nat)) 1), s.heap, h₀, L, m, ws, news, Good, rfl, ?_, hsz, ?_, ?_, ?_, up _, Heap.get?_none_of_le (Nat.le_refl _), F, N, hnws, G0, turn _, fin _⟩
  · have W := Walks.range (prog := prog) (w := w) hh s.heap.objs.size 0 1 n
    exact { sub := W.sub, frame := W.frame, self := W.self, done := W.done, item := fun i s Q E hi st hQ => W.item i s Q E hi st fun v h' tk hP st' hk => hQ v h' tk (by obtain ⟨t, rfl⟩ := hP; exact ⟨t, by rw [Int.zero_add, Int.mul_one]⟩) st' hk }
  · show IsRangeIter _ _ _ _ _
    rw [hn]; simpa using Heap.get?_push_size _ rfl
  · intro i h st b hb
    rw [List.mem_singleton.mp hb]
    exact ⟨_, st⟩
  · intro b hb q
    rw [List.mem_singleton.mp hb] at q
    obtain ⟨p, hp, e⟩ := List.mem_map.mp q
    have := Heap.lt_size (N p (List.mem_append_left _ hp)).1
    rw [e] at this; exact Nat.lt_irrefl _ this
end T13X

section GrpT14X5
local macro_rules | `(tactic| walk_at "cf") => `(tactic| first | assumption | exact prA0 (by assumption) | exact prA1 (by assumption) | exact prB1 (by assumption) | exact prA2 (by assumption) | exact prB2 (by assumption) | exact prA3 (by assumption) | exact prB3 (by assumption) | exact prA4 (by assumption) | exact prB4 (by assumption) | exact prA5 (by assumption) | exact prB5 (by assumption) | exact prA6 (by assumption) | exact prB6 (by assumption) | exact prA7 (by assumption) | exact prB7 (by assumption) | exact prA8 (by assumption) | exact prB8 (by assumption) | exact prA9 (by assumption) | exact prB9 (by assumption) | exact prA10 (by assumption) | exact prB10 (by assumption) | exact prA11 (by assumption) | exact prB11 (by assumption) | exact prA12 (by assumption) | exact prB12 (by assumption))
local macro_rules | `(tactic| k_ne) => `(tactic| (refine neN ?_; (try dsimp only); first | assumption | exact Ne.symm (by assumption) | exact Nat.ne_of_lt (by walk_at "cf") | exact (Nat.ne_of_lt (by walk_at "cf")).symm | exact (Nat.ne_of_lt (Nat.lt_succ_of_lt (by walk_at "cf"))).symm | exact Nat.ne_of_lt (Nat.lt_succ_of_lt (by walk_at "cf")) | omega))
local macro_rules | `(tactic| walk_at "call ref") => `(tactic| (
  (with_reducible show wpAny _ _ (call (Value.ref 339) _) _ _ _);
  refine' draw_specT ?k1 ?k2 ?k3 ?k4 ?k5 ?k6 ?k7 ?_; (case k1 => exact gd1 (by assumption) (by k_asm) (by k_asm) (by k_updF)); (case k2 => exact get1 (by k_asm) (by k_updF)); (case k3 => assumption); (case k4 => omega); (case k5 => omega); (case k6 => units_room); (case k7 => units_room);
  (intro k' t' o' h' tk' p1' p2' hD' hK' fr' le'; (try dsimp only at le'); have FN' := after1 (by k_asm) (by k_asm) (by k_updF) fr' hK'; obtain ⟨F', N'⟩ := FN'; clear fr'; (try k_sweep); (try dsimp only at N'); (try dsimp only); (try (first | (refine (of_one p1' p2').elim (fun e9 => ?_) (fun e9 => e9.elim) <;> subst e9) | (refine (of_two p1' p2').elim (fun e9 => ?_) (fun e9 => ?_) <;> subst e9) | (refine (of_three p1' p2').elim (fun e9 => ?_) (fun e9 => e9.elim (fun e9 => ?_) (fun e9 => ?_)) <;> subst e9) | (refine (of_four p1' p2').elim (fun e9 => ?_) (fun e9 => e9.elim (fun e9 => ?_) (fun e9 => e9.elim (fun e9 => ?_) (fun e9 => ?_))) <;> subst e9))))))
local macro_rules | `(tactic| walk_at "execs cons") => `(tactic| ((with_reducible show wpAny _ _ _ _ _ (Shared.mk _ _ _ (_ + 1) _)); refine gen_tk ?_; intro tk' le'; (try dsimp only at le')))
local macro_rules | `(tactic| walk_at "execs nil") => `(tactic| ((with_reducible show wpAny _ _ _ _ _ (Shared.mk _ _ _ (_ + 1) _)); refine gen_tk ?_; intro tk' le'; (try dsimp only at le')))
local macro_rules | `(tactic| k_lt $h:ident) => `(tactic| (replace $h := allLt_of $h; dsimp only [AllLt] at $h:ident))
local macro_rules | `(tactic| k_all) => `(tactic| assumption)
open PySem PySem.W PySem.Calls PyProof.Rows in
theorem rstT14 {M : Model} {A : Around} {env : Env} {Q : Flow → Shared → Prop} {E : Value → Shared → Prop} {s : Shared} (h : Q Flow.next s) : wpAny M A (execs [] env) Q E s := by
  w_top off
  first | (walk1; exact h) | exact wpAny_execs_nil h
section T14X
open PySem PySem.W PySem.Calls PyProof.Rows
set_option Elab.async false
set_option maxRecDepth 100000
open PyProof.Rows.LCg
def TokR (n : Nat) (v : Value) (m : Nat) : Prop := ∀ i t, v = .int i t → n ≤ t ∧ t < m
theorem TokR.ref {n m : Nat} {a : Addr} : TokR n (.ref a) m := fun _ _ e => by cases e
set_option maxHeartbeats 8000000 in
theorem atom_spec {w : World} {outer : List Env} {s : Shared} {dp un : Nat} {gd : Option (List Code)} {lk : Addr → Obj → Prop} {K R Nm tb tw : Addr} {oK oR oN : Obj} {Q E : Value → Shared → Prop}
    (G : Gd w [K, R, Nm] outer s.heap) (hlk : ∀ a o, lk a o → (hideAll s.heap [K, R, Nm]).get? a = some o) (wd : Wd w lk K R Nm tb tw) (hK : s.heap.get? K = some oK) (hR : s.heap.get? R = some oR) (hNm : s.heap.get? Nm = some oN) (dk : Deck oK) (tab : Tab w lk oR oN)
    (hdp : dp + 20 < recursionLimit) (hun : un + 2000 < cLine)
    (ret : ∀ d v nw oK' oR' oN' h' tk', Born s.heap h' nw → At w (LK lk nw) d v → d.size = 1 → d.depth = 0 → Deck oK' → Tab w (LK lk nw) oR' oN' → h'.get? K = some oK' → h'.get? R = some oR' → h'.get? Nm = some oN' → Frame [K, R, Nm] s.heap h' → TokR s.toks v tk' → Q v { s with heap := h', toks := tk' }) :
    wpAny (model PySem.Challenge.rw_np0028_01.row.prog w) (Ar dp un gd outer) (call (.ref 344) [.ref K, .ref tb, .ref tw]) Q E s := by
  have KR := wd.KR
  have KN := wd.KN
  have RN := wd.RN
  have lo := wd.lo
  obtain ⟨dT, q1, q2, g1, g2⟩ := wd.tbl
  have g1 := hlk _ _ g1
  have g2 := hlk _ _ g2
  have LK1 : @LT.lt Nat _ K s.heap.objs.size := Heap.lt_size hK
  have LR1 : @LT.lt Nat _ R s.heap.objs.size := Heap.lt_size hR
  have LN1 : @LT.lt Nat _ Nm s.heap.objs.size := Heap.lt_size hNm
  refine wpAny_call ?_
  refine enterCT (binds := [(Str.ofString "deck", .ref K), (Str.ofString "table", .ref tb), (Str.ofString "twin", .ref tw)]) G (by omega) (by k_is) (by k_is) (BindsTo.of_eq rfl) rfl (by decide +kernel) rfl rfl rfl ?_
  intro base p loose mean mg mb h₁ tk₁ cells le1 F hN Y B T
  have X := G.X
  have N := hN [(K, oK), (R, oR), (Nm, oN)] (by intro q hq; simp only [List.mem_cons, List.not_mem_nil, or_false] at hq ⊢; rcases hq with rfl | rfl | rfl; exact ⟨.inl rfl, hK⟩; exact ⟨.inr (.inl rfl), hR⟩; exact ⟨.inr (.inr rfl), hNm⟩)
  have hB := PLift.up B
  clear hN B
  k_cells Y
  rename_i oc hoc
  simp only [List.cons_append, List.nil_append] at N
  try dsimp only
  try k_fold
  have retI : ∀ i tt oK' h' tk' m, s.toks ≤ tt → tt < tk' → Deck oK' → Fr (hideAll s.heap [K, R, Nm]) s.heap.objs.size h' m → h'.get? K = some oK' → h'.get? R = some oR → h'.get? Nm = some oN → Q (.int i tt) { s with heap := h', toks := tk' } := by
    intro i tt oK' h' tk' m n1 n2 hd F e1 e2 e3
    exact ret (.int i) _ [] oK' oR oN h' tk' (fun _ h => (nomatch h)) (by simp only [At]; exact ⟨_, rfl⟩) rfl rfl hd (tab.mono fun _ _ z => .inl z) e1 e2 e3 (Frame.of_Fr F) (fun _ _ e => by cases e; exact ⟨n1, n2⟩)
  repeat' (first | k_unfold | ((with_reducible show @LE.le Nat _ _ _ → _); intro le9; (try dsimp only at le9)) | ((fail_if_success (with_reducible show wpAny _ _ (exec (Stmt.Assign _ (PySem.Expr.ListComp _ _ _ _) _) _) _ _ _)); (first | ((first | (with_reducible show wpAny _ _ (call (Value.builtin "len") _) _ _ _)); refine wpAny_tok ?_; walk1) | walk1)) | ((fail_if_success (with_reducible show wpAny _ _ (exec (Stmt.Assign _ (PySem.Expr.ListComp _ _ _ _) _) _) _ _ _)); dsimp only; (first | ((first | (with_reducible show wpAny _ _ (call (Value.builtin "len") _) _ _ _)); refine wpAny_tok ?_; walk1) | walk1)))
  · (repeat (rename _ ≤ Shared.toks _ => le9; dsimp only at le9))
    exact retI _ _ _ _ _ _ (by (try dsimp only); omega) (by (try dsimp only); omega) (by assumption) (by k_asm) (News.get (by k_asm) (by k_mem)) (News.get (by k_asm) (by k_mem)) (News.get (by k_asm) (by k_mem))
  · (repeat (rename _ ≤ Shared.toks _ => le9; dsimp only at le9))
    exact retI _ _ _ _ _ _ (by (try dsimp only); omega) (by (try dsimp only); omega) (by assumption) (by k_asm) (News.get (by k_asm) (by k_mem)) (News.get (by k_asm) (by k_mem)) (News.get (by k_asm) (by k_mem))
  · (repeat (rename _ ≤ Shared.toks _ => le9; dsimp only at le9))
    exact retI _ _ _ _ _ _ (by (try dsimp only); omega) (by (try dsimp only); omega) (by assumption) (by k_asm) (News.get (by k_asm) (by k_mem)) (News.get (by k_asm) (by k_mem)) (News.get (by k_asm) (by k_mem))
  · (repeat (rename _ ≤ Shared.toks _ => le9; dsimp only at le9))
    exact retI _ _ _ _ _ _ (by (try dsimp only); omega) (by (try dsimp only); omega) (by assumption) (by k_asm) (News.get (by k_asm) (by k_mem)) (News.get (by k_asm) (by k_mem)) (News.get (by k_asm) (by k_mem))
  · rename Obj => ok2
    rename News _ _ _ _ => N2
    rename Fr _ _ _ _ => F2
    rename Deck _ => dk2
    have hgR : ∀ a ∈ [R, Nm], (hideAll s.heap [K, R, Nm]).get? a = none := fun a ha => hideAll_none _ (List.mem_cons_of_mem _ ha)
    have hgL : ∀ a ∈ [R, Nm], a ≠ s.heap.objs.size ∧ (hideAll s.heap [K, R, Nm]).get? a = none := by
      intro a ha
      refine ⟨?_, hgR a ha⟩
      simp only [List.mem_cons, List.not_mem_nil, or_false] at ha
      rcases ha with rfl | rfl
      · exact Nat.ne_of_lt LR1
      · exact Nat.ne_of_lt LN1
    refine intern_a_spec (G.push F2 hgL) (fun a o e => lkW (tl := []) F2 N2 hlk (fun _ h => nomatch h) (fun _ h => nomatch h) hgR a o (.inl e)) wd.tbl RN lo (News.get N2 (by k_mem)) (News.get N2 (by k_mem)) tab (by show dp + 1 + 8 < recursionLimit; units_room) (by show un + 3 + 400 < cLine; units_room) ?_
    intro a1 nw1 oR1 oN1 h1 tk1 hB1 sa1 tab1 eR1 eN1 fr1
    obtain ⟨F3, N3⟩ := after2 F2 N2 (by k_updF) (fun q => by k_updF) fr1 eR1 eN1
    obtain ⟨N4, of1⟩ := born_news F2 N2 N3 hB1
    clear F2 N2 eR1 eN1 fr1
    try dsimp only at N3 N4 of1
    have of1' : ∀ p ∈ nw1, p.1 ∉ [R, Nm] := by
      intro p hp q
      simp only [List.mem_cons, List.not_mem_nil, or_false] at q
      rcases q with q | q
      · exact of1 p hp (R, oR) (by k_mem) q
      · exact of1 p hp (Nm, oN) (by k_mem) q
    have of1K : ∀ p ∈ nw1, p.1 ≠ K := fun p hp q => of1 p hp (K, ok2) (by k_mem) q
    try k_fold
    repeat' (first | (k_unfold; (try dsimp only)) | ((fail_if_success (with_reducible show wpAny _ _ (call (Value.ref 271) _) _ _ _)); walk1) | ((fail_if_success (with_reducible show wpAny _ _ (call (Value.ref 271) _) _ _ _)); dsimp only; walk1))
    have wd1 := wd.mono (lk' := LK lk nw1) fun _ _ z => .inl z
    refine intern_b_spec (lk := LK lk nw1) (G.push F3 hgL) (lkW F3 N4 hlk (fun p hp => List.mem_append_left _ hp) of1' hgR) wd1.tbl RN lo (News.get N3 (by k_mem)) (News.get N3 (by k_mem)) tab1 (by show dp + 1 + 8 < recursionLimit; units_room) (by show un + 3 + 400 < cLine; units_room) ?_
    intro b1 nw2 oR2 oN2 h2 tk2 hB2 sb1 tab2 eR2 eN2 fr2
    obtain ⟨F4, N5⟩ := after2 F3 N3 (by k_updF) (fun q => by k_updF) fr2 eR2 eN2
    obtain ⟨N6, of2⟩ := born_news F3 N4 N5 hB2
    try dsimp only at N5 N6 of2
    have N7 : News (hideAll s.heap [K, R, Nm]) s.heap.objs.size h2 ((s.heap.objs.size + 1, oc) :: (K, ok2) :: (R, oR2) :: (Nm, oN2) :: (nw2 ++ nw1)) := by
      intro p hp
      rcases List.mem_cons.mp hp with rfl | hp
      · exact N5 _ (by k_mem)
      rcases List.mem_cons.mp hp with rfl | hp
      · exact N5 _ (List.mem_cons_of_mem _ List.mem_cons_self)
      rcases List.mem_cons.mp hp with rfl | hp
      · exact N5 _ (by k_mem)
      rcases List.mem_cons.mp hp with rfl | hp
      · exact N5 _ (by k_mem)
      rcases List.mem_append.mp hp with hp | hp
      · exact N6 p (List.mem_append_left _ hp)
      · have z := N4 p (List.mem_append_left _ hp)
        exact ⟨fr2 _ _ (of1' p hp) z.1, z.2⟩
    have off3 : ∀ p ∈ nw2 ++ nw1, p.1 ∉ [K, R, Nm] := by
      intro p hp q
      simp only [List.mem_cons, List.not_mem_nil, or_false] at q
      rcases List.mem_append.mp hp with hp | hp
      · rcases q with q | q | q
        · exact of2 p hp (K, ok2) (List.mem_append_right _ (by k_mem)) q
        · exact of2 p hp (R, oR1) (List.mem_append_right _ (by k_mem)) q
        · exact of2 p hp (Nm, oN1) (List.mem_append_right _ (by k_mem)) q
      · rcases q with q | q | q
        · exact of1K p hp q
        · exact of1' p hp (by rw [q]; exact List.mem_cons_self)
        · exact of1' p hp (by rw [q]; exact List.mem_cons_of_mem _ List.mem_cons_self)
    have up2 : ∀ a o, LK (LK lk nw1) nw2 a o → LK lk (nw2 ++ nw1) a o := by
      rintro a o ((z | z) | z)
      · exact .inl z
      · exact .inr (List.mem_append_right _ z)
      · exact .inr (List.mem_append_left _ z)
    replace sa1 : SymAt (LK lk (nw2 ++ nw1)) a1 := (sa1.mono fun a o z => up2 a o (.inl z))
    replace sb1 : SymAt (LK lk (nw2 ++ nw1)) b1 := sb1.mono up2
    replace tab2 := tab2.mono up2
    clear N3 N4 N5 N6 F3 up2 of2 of1K of1' of1 eR2 eN2 fr2 hB1 hB2 tab1 wd1
    generalize nw2 ++ nw1 = tl at *
    have offK : ∀ p ∈ tl, p.1 ≠ K := fun p hp q => off3 p hp (by rw [q]; exact List.mem_cons_self)
    have retS : ∀ a oK' h' tk' m led, Deck oK' → SymAt (LK lk tl) a → Fr (hideAll s.heap [K, R, Nm]) s.heap.objs.size h' m → News (hideAll s.heap [K, R, Nm]) s.heap.objs.size h' led → (K, oK') ∈ led → (R, oR2) ∈ led → (Nm, oN2) ∈ led → (∀ p ∈ tl, p ∈ led) → Q (.ref a) { s with heap := h', toks := tk' } := by
      intro a oK' h' tk' m led hd sy F N m1 m2 m3 m4
      exact ret (.sym a) (.ref a) tl oK' oR2 oN2 h' tk' (born_W N m4 off3) (by simp only [At]; exact ⟨trivial, sy⟩) rfl rfl hd tab2 (N _ m1).1 (N _ m2).1 (N _ m3).1 (Frame.of_Fr F) TokR.ref
    have s64 := wd.nil.mono (lk' := LK lk tl) fun _ _ z => .inl z
    have stw := wd.tws.mono (lk' := LK lk tl) fun _ _ z => .inl z
    try k_fold
    k_steps
    all_goals exact retS _ _ _ _ _ _ (by assumption) (by assumption) (by k_asm) (by k_asm) (by k_mem) (by k_mem) (by k_mem) (fun p hp => by iterate 5 refine List.mem_cons_of_mem _ ?_
                                                                                                                                            exact hp)
  · rename News _ _ _ _ => N2
    rename Fr _ _ _ _ => F2
    rename Deck _ => dk2
    refine wpAny_tok ?_
    have hsc := F2
    k_dflt (refine comp_use (V := VL _ _ [(Str.ofString "deck", s.heap.objs.size + 1)] (Str.ofString "turn")) (by with_unfolding_all rfl) (tv_local (by decide) (by rfl) (by rfl)) (by with_unfolding_all rfl) (by rfl) (by decide) (by intro _; with_unfolding_all rfl) (by intro _ _; rfl) ?_)
    clear hsc
    repeat' (first | (k_unfold; (try dsimp only)) | ((fail_if_success (with_reducible show wpAny _ _ (call (Value.ref 339) _) _ _ _)); walk1) | ((fail_if_success (with_reducible show wpAny _ _ (call (Value.ref 339) _) _ _ _)); dsimp only; walk1))
    refine draw_spec (gd1 (by assumption) (by k_asm) (by k_asm) (by k_updF)) (get1 (by k_asm) (by k_updF)) (by assumption) (by omega) (by omega) (by dsimp only; omega) (by dsimp only; omega) ?_
    intro k3 t3 o3 h3 tk3 p3 p4 dk3 hK3 fr3
    obtain ⟨F3, N3⟩ := after1 F2 N2 (by k_updF) fr3 hK3
    clear F2 N2 fr3 hK3 dk2
    try dsimp only at N3
    obtain ⟨n3, rfl⟩ : ∃ n : Nat, k3 = n := ⟨k3.toNat, by omega⟩
    repeat' (first | (k_unfold; (try dsimp only)) | ((fail_if_success (with_reducible show wpAny _ _ (pyIter _) _ _ _)); walk1) | ((fail_if_success (with_reducible show wpAny _ _ (pyIter _) _ _ _)); dsimp only; walk1))
    rename IsRange _ _ _ _ _ _ _ _ => hr4
    rename News _ _ _ _ => N4
    rename Fr _ _ _ _ => F4
    have h012 : n3 = 0 ∨ n3 = 1 ∨ n3 = 2 := by omega
    have N4' : News (hideAll s.heap [K, R, Nm]) s.heap.objs.size _ ([(K, o3), (R, oR), (Nm, oN)] ++ [(s.heap.objs.size + 1, oc)]) := fun p hp => N4 p (by simp only [List.mem_append, List.mem_cons, List.not_mem_nil, or_false] at hp ⊢; rcases hp with (h | h | h) | h <;> simp [h])
    have gK := (N4' (K, o3) List.mem_cons_self).1
    refine gsrc_range (ws := [(K, o3), (R, oR), (Nm, oN)]) (n := n3) (fun i rs nw ws => nw = [] ∧ (∃ cs, IntsAre rs cs ∧ cs.length = i) ∧ ∃ o, ws = [(K, o), (R, oR), (Nm, oN)] ∧ Deck o) rfl hr4 (by rcases h012 with rfl | rfl | rfl <;> decide) (by rcases h012 with rfl | rfl | rfl <;> decide) (by rw [sizeLine_eq]; omega) F4 N4' ?_ ⟨rfl, ⟨[], .nil, rfl⟩, o3, rfl, dk3⟩ ?_ ?_
    · intro p hp
      rw [List.mem_singleton] at hp; subst hp
      simp only [List.map_cons, List.map_nil, List.mem_cons, List.not_mem_nil, or_false]
      rintro (h | h | h)
      · exact absurd h (by k_ne)
      · exact absurd h (by k_ne)
      · exact absurd h (by k_ne)
    · intro g5 i x cenv objs h5 tk5 rs nw ws' E' hi hx hV hfg F5 N5 hog hwm hG _
      obtain ⟨rfl, ⟨cs, hI, hcs⟩, o5, rfl, dk5⟩ := hG
      refine wpAny_tests_nil ?_
      simp only [if_true]
      obtain ⟨C, oC, m₂, hE, hC, rfl, hoC, hmx⟩ := hV
      rw [hE]
      clear F4 N4 N4'
      simp only [List.cons_append, List.nil_append] at N5
      have hCg := hog _ List.mem_cons_self
      repeat' (first | (k_unfold; (try dsimp only)) | ((fail_if_success (with_reducible show wpAny _ _ (newList _) _ _ _)); walk1) | ((fail_if_success (with_reducible show wpAny _ _ (newList _) _ _ _)); dsimp only; walk1))
      refine wpAny_newObj_type ?_
      have lt5 : @LT.lt Nat _ K h5.objs.size := Heap.lt_size (N5 (K, o5) (by k_mem)).1
      have lt6 : @LT.lt Nat _ C h5.objs.size := Heap.lt_size (N5 (C, oC) (by k_mem)).1
      have hCK : @Ne Nat C K := fun q => by rw [q, gK] at hCg; cases hCg
      have F6 := F5.push { cls := .type "list", dict := none, data := .seq ([Value.int 97 tk5, Value.int 98 (tk5 + 1)] : List Value).toArray }
      have N6 := News.push F5 N5 { cls := .type "list", dict := none, data := .seq ([Value.int 97 tk5, Value.int 98 (tk5 + 1)] : List Value).toArray }
      have up5 : Grow h5 (h5.push { cls := .type "list", dict := none, data := .seq ([Value.int 97 tk5, Value.int 98 (tk5 + 1)] : List Value).toArray }) := fun b o e => Heap.get?_push_of_some _ e
      clear F5 N5
      try k_fold
      repeat' (first | (k_unfold; (try dsimp only)) | ((fail_if_success (with_reducible show wpAny _ _ (call (Value.ref 339) _) _ _ _)); walk1) | ((fail_if_success (with_reducible show wpAny _ _ (call (Value.ref 339) _) _ _ _)); dsimp only; walk1))
      refine draw_spec (gd1 (by assumption) (by k_asm) (by k_asm) (by k_updF)) (get1 (by k_asm) (by k_updF)) (by assumption) (by omega) (by omega) (by dsimp only; omega) (by dsimp only; omega) ?_
      intro k6 t6 o6 h6 tk6 p6 p7 dk6 hK6 fr6
      obtain ⟨F7, N7⟩ := after1 F6 N6 (by k_updF) fr6 hK6
      clear F6 N6
      try dsimp only at N7
      have fin7 : ∀ x tt tk9, rs ++ [Value.int x tt] = rs ++ [Value.int x tt] → ∃ h' tk' nw' ws'', ({ heap := h6, gens := s.gens, drawn := s.drawn, toks := tk9, os := s.os } : Shared) = { heap := h', gens := s.gens, drawn := s.drawn, toks := tk', os := s.os } ∧ FrameW [(K, o3), (R, oR), (Nm, oN)] h5 h' ∧ Born h5 h' nw' ∧ ws''.map (·.1) = [(K, o3), (R, oR), (Nm, oN)].map (·.1) ∧ Lies h' ws'' ∧
          (([] : List (Addr × Obj)) ++ nw' = [] ∧ (∃ cs, IntsAre (rs ++ [Value.int x tt]) cs ∧ cs.length = i + 1) ∧ ∃ o, ws'' = [(K, o), (R, oR), (Nm, oN)] ∧ Deck o) := by
        intro x tt tk9 _
        refine ⟨h6, _, [], [(K, o6), (R, oR), (Nm, oN)], rfl, fun b o hb e => fr6 b o (fun q => hb ?_) (up5 b o e), fun _ h => (nomatch h), rfl, fun p hp => ?_, rfl, ⟨cs ++ [x], hI.append (.cons _ _ .nil), by simp [hcs]⟩, o6, rfl, dk6⟩
        · rw [List.mem_singleton] at q; rw [q]; exact List.mem_cons_self
        · simp only [List.mem_cons, List.not_mem_nil, or_false] at hp
          rcases hp with rfl | rfl | rfl
          · exact (N7 _ (by k_mem)).1
          · exact (N7 _ (by k_mem)).1
          · exact (N7 _ (by k_mem)).1
      rcases of_two p6 p7 with rfl | rfl
      · repeat' ((with_reducible show wpAny _ _ _ _ _ _); first | k_unfold | walk1 | (dsimp only; walk1))
        exact fin7 _ _ _ rfl
      · repeat' ((with_reducible show wpAny _ _ _ _ _ _); first | k_unfold | walk1 | (dsimp only; walk1))
        exact fin7 _ _ _ rfl
    · intro g5
      refine' GFin.store ?f1 ?n1 ?n0 ?n2 ?n3 ?_; (case f1 => exact F4); (case n0 => exact N4'); (case n2 => rfl); (case n3 => rfl)
      · intro p hp
        rw [List.mem_singleton] at hp; subst hp
        simp only [List.map_cons, List.map_nil, List.mem_cons, List.not_mem_nil, or_false]
        rintro (h | h | h)
        · exact absurd h (by k_ne)
        · exact absurd h (by k_ne)
        · exact absurd h (by k_ne)
      intro D0 h'' tk'' rs'' nw'' ws3 a2 a3 a4 a6 a7 a8 F5 N5
      obtain ⟨rfl, ⟨cs, hI, hcs⟩, o5, rfl, dk5⟩ := a6
      have hcs2 : cs.length ≤ 2 := by omega
      simp only [List.cons_append, List.nil_append] at N5
      have N6 : News (hideAll s.heap [K, R, Nm]) s.heap.objs.size h'' ((D0, PySem.W.listOf rs''.toArray rs''.length) :: _) := news_one F4 N5 a2 a3
      have ltD : @Ne Nat D0 K := fun q => by rw [q, gK] at a3; cases a3
      have N3g := N4'
      clear N5 N4 N4' F4
      try clear F3 N3
      have hlen2 := hI.length
      have gR := (N3g (R, oR) (by k_mem)).1
      have gN := (N3g (Nm, oN) (by k_mem)).1
      have ltR : @Ne Nat D0 R := fun q => by rw [q, gR] at a3; cases a3
      have ltN : @Ne Nat D0 Nm := fun q => by rw [q, gN] at a3; cases a3
      have finT : ∀ (x dx : Addr) (t1 t2 : Tok) (sv : Value) (sp : Option Int) (nwsp : List (Addr × Obj)) (h' : Heap) (tk' : Nat) (m : Str → Option Value) (led : List (Addr × Obj)) (oK' : Obj), Fr (hideAll s.heap [K, R, Nm]) s.heap.objs.size h' m → News (hideAll s.heap [K, R, Nm]) s.heap.objs.size h' led → (x, instObj 107 dx) ∈ led → (dx, dictOf [ent w "codes" t1 (.ref D0), ent w "spans" t2 sv] 2) ∈ led →
          (D0, PySem.W.listOf rs''.toArray rs''.length) ∈ led → (K, oK') ∈ led → (R, oR) ∈ led → (Nm, oN) ∈ led → Deck oK' → SpAt (fun a o => (a, o) ∈ nwsp) sp sv → (∀ p ∈ nwsp, p ∈ led) → (∀ p ∈ nwsp, p.1 ∉ [K, R, Nm]) → x ∉ [K, R, Nm] → dx ∉ [K, R, Nm] → Q (.ref x) { s with heap := h', toks := tk' } := by
        intro x dx t1 t2 sv sp nwsp h' tk' m led oK' F N m1 m2 m3 m4 m5 m6 hd hsp s1 s2 s3 s4
        refine ret (.text x cs sp) (.ref x) ((x, instObj 107 dx) :: (dx, dictOf [ent w "codes" t1 (.ref D0), ent w "spans" t2 sv] 2) :: (D0, PySem.W.listOf rs''.toArray rs''.length) :: nwsp) oK' oR oN h' tk' (born_W N ?_ ?_) ?_ rfl rfl hd (tab.mono fun _ _ z => .inl z) (N _ m4).1 (N _ m5).1 (N _ m6).1 (Frame.of_Fr F) TokR.ref
        · intro p hp
          rcases List.mem_cons.mp hp with rfl | hp
          · exact m1
          rcases List.mem_cons.mp hp with rfl | hp
          · exact m2
          rcases List.mem_cons.mp hp with rfl | hp
          · exact m3
          · exact s1 p hp
        · intro p hp
          rcases List.mem_cons.mp hp with rfl | hp
          · exact s3
          rcases List.mem_cons.mp hp with rfl | hp
          · exact s4
          rcases List.mem_cons.mp hp with rfl | hp
          · simp only [List.mem_cons, List.not_mem_nil, or_false]
            rintro (h | h | h)
            · exact ltD h
            · exact ltR h
            · exact ltN h
          · exact s2 p hp
        · simp only [At]
          exact ⟨trivial, dx, D0, _, rs'', t1, t2, sv, .inr List.mem_cons_self, .inr (List.mem_cons_of_mem _ List.mem_cons_self), .inr (List.mem_cons_of_mem _ (List.mem_cons_of_mem _ List.mem_cons_self)), hI, hcs2, hsp.mono fun a o z => .inr (List.mem_cons_of_mem _ (List.mem_cons_of_mem _ (List.mem_cons_of_mem _ z)))⟩
      have finS : ∀ (k5 : Int) (l t : Addr) (a1 a2 a3 : Tok) (x dx : Addr) (t1 t2 : Tok) (h' : Heap) (tk' : Nat) (m : Str → Option Value) (led : List (Addr × Obj)) (oK' : Obj), Fr (hideAll s.heap [K, R, Nm]) s.heap.objs.size h' m → News (hideAll s.heap [K, R, Nm]) s.heap.objs.size h' led → (x, instObj 107 dx) ∈ led → (dx, dictOf [ent w "codes" t1 (.ref D0), ent w "spans" t2 (.ref l)] 2) ∈ led →
          (l, PySem.W.listOf #[.ref t] 0) ∈ led → (t, tupO [.int 0 a1, .int 1 a2, .int k5 a3] 0) ∈ led →
          (D0, PySem.W.listOf rs''.toArray rs''.length) ∈ led → (K, oK') ∈ led → (R, oR) ∈ led → (Nm, oN) ∈ led → Deck oK' → l ∉ [K, R, Nm] → t ∉ [K, R, Nm] → x ∉ [K, R, Nm] → dx ∉ [K, R, Nm] → Q (.ref x) { s with heap := h', toks := tk' } := by
        intro k5 l t a1 a2 a3 x dx t1 t2 h' tk' m led oK' F N m1 m2 m7 m8 m3 m4 m5 m6 hd s3 s4 s5 s6
        refine finT x dx t1 t2 (.ref l) (some k5) [(l, PySem.W.listOf #[.ref t] 0), (t, tupO [.int 0 a1, .int 1 a2, .int k5 a3] 0)] h' tk' m led oK' F N m1 m2 m3 m4 m5 m6 hd ⟨l, t, 0, 0, a1, a2, a3, rfl, List.mem_cons_self, List.mem_cons_of_mem _ List.mem_cons_self⟩ ?_ ?_ s5 s6
        · intro p hp
          simp only [List.mem_cons, List.not_mem_nil, or_false] at hp
          rcases hp with rfl | rfl
          · exact m7
          · exact m8
        · intro p hp
          simp only [List.mem_cons, List.not_mem_nil, or_false] at hp
          rcases hp with rfl | rfl
          · exact s3
          · exact s4
      clear N3g
      try ((with_reducible show @LE.le Nat _ _ _ → _); intro le9; (try dsimp only at le9))
      try k_fold
      repeat' (first | k_unfold | ((with_reducible show @LE.le Nat _ _ _ → _); intro le9; (try dsimp only at le9)) | (first | ((first | (with_reducible show wpAny _ _ (call (Value.builtin "len") _) _ _ _)); refine wpAny_tok ?_; walk1) | walk1) | (dsimp only; (first | ((first | (with_reducible show wpAny _ _ (call (Value.builtin "len") _) _ _ _)); refine wpAny_tok ?_; walk1) | walk1)))
      · rename News _ _ _ _ => N9
        rename Fr _ _ _ _ => F9
        refine make_107 hB.down F9 X N9 T rfl rfl rfl rfl (by units_room) (by units_room) ?_
        intro x9 dx9 t8 t9 h9 tk9 kF kN l19 l29
        have b1 := l19 (K, _) (by k_mem)
        have b2 := l19 (R, _) (by k_mem)
        have b3 := l19 (Nm, _) (by k_mem)
        dsimp only at b1 b2 b3
        repeat' (first | k_unfold | ((with_reducible show @LE.le Nat _ _ _ → _); intro le9))
        exact finT _ _ _ _ _ none [] _ _ _ _ _ kF kN (by k_mem) (by k_mem) (by k_mem) (by k_mem) (by k_mem) (by k_mem) (by assumption) rfl (fun _ h => nomatch h) (fun _ h => nomatch h) (by simp only [List.mem_cons, List.not_mem_nil, or_false]; rintro (h | h | h) <;> exact absurd h (by k_ne)) (by simp only [List.mem_cons, List.not_mem_nil, or_false]; rintro (h | h | h) <;> exact absurd h (by k_ne))
      · rename News _ _ _ _ => N9
        rename Fr _ _ _ _ => F9
        refine make_107 hB.down F9 X N9 T rfl rfl rfl rfl (by units_room) (by units_room) ?_
        intro x9 dx9 t8 t9 h9 tk9 kF kN l19 l29
        have b1 := l19 (K, _) (by k_mem)
        have b2 := l19 (R, _) (by k_mem)
        have b3 := l19 (Nm, _) (by k_mem)
        dsimp only at b1 b2 b3
        repeat' (first | k_unfold | ((with_reducible show @LE.le Nat _ _ _ → _); intro le9))
        exact finS 5 _ _ _ _ _ _ _ _ _ _ _ _ _ _ kF kN (by k_mem) (by k_mem) (by k_mem) (by k_mem) (by k_mem) (by k_mem) (by k_mem) (by k_mem) (by assumption) (by simp only [List.mem_cons, List.not_mem_nil, or_false]; rintro (h | h | h) <;> exact absurd h (by k_ne)) (by simp only [List.mem_cons, List.not_mem_nil, or_false]; rintro (h | h | h) <;> exact absurd h (by k_ne)) (by simp only [List.mem_cons, List.not_mem_nil, or_false]; rintro (h | h | h) <;> exact absurd h (by k_ne)) (by simp only [List.mem_cons, List.not_mem_nil, or_false]; rintro (h | h | h) <;> exact absurd h (by k_ne))
      · rename News _ _ _ _ => N9
        rename Fr _ _ _ _ => F9
        refine make_107 hB.down F9 X N9 T rfl rfl rfl rfl (by units_room) (by units_room) ?_
        intro x9 dx9 t8 t9 h9 tk9 kF kN l19 l29
        have b1 := l19 (K, _) (by k_mem)
        have b2 := l19 (R, _) (by k_mem)
        have b3 := l19 (Nm, _) (by k_mem)
        dsimp only at b1 b2 b3
        repeat' (first | k_unfold | ((with_reducible show @LE.le Nat _ _ _ → _); intro le9))
        exact finS 6 _ _ _ _ _ _ _ _ _ _ _ _ _ _ kF kN (by k_mem) (by k_mem) (by k_mem) (by k_mem) (by k_mem) (by k_mem) (by k_mem) (by k_mem) (by assumption) (by simp only [List.mem_cons, List.not_mem_nil, or_false]; rintro (h | h | h) <;> exact absurd h (by k_ne)) (by simp only [List.mem_cons, List.not_mem_nil, or_false]; rintro (h | h | h) <;> exact absurd h (by k_ne)) (by simp only [List.mem_cons, List.not_mem_nil, or_false]; rintro (h | h | h) <;> exact absurd h (by k_ne)) (by simp only [List.mem_cons, List.not_mem_nil, or_false]; rintro (h | h | h) <;> exact absurd h (by k_ne))
      · (repeat (rename _ ≤ Shared.toks _ => le9; dsimp only at le9))
        exact retI _ _ _ _ _ _ (by (try dsimp only); omega) (by (try dsimp only); omega) (by assumption) (by k_asm) (News.get (by k_asm) (by k_mem)) (News.get (by k_asm) (by k_mem)) (News.get (by k_asm) (by k_mem))
end T14X

open PySem PySem.W PySem.Calls PyProof.Rows in
theorem rstPl2 {M : Model} {A : Around} {env : Env} {Q : Flow → Shared → Prop} {E : Value → Shared → Prop} {s : Shared} (h : Q Flow.next s) : wpAny M A (execs [] env) Q E s := by
  w_top off
  first | (walk1; exact h) | exact wpAny_execs_nil h
section Pl2X
open PySem PySem.W PySem.Calls PyProof.Rows
set_option Elab.async false
mutual
theorem alike_refl {b : Bool} : ∀ d : D, alike b d d = true
  | .int i => by simp [alike]
  | .sym a => by simp [alike, D.same, D.ref]
  | .text a cs sp => by simp [alike]
  | .cons a x y => by simp [alike, alike_refl x, alike_refl y]
  | .vec a k l => by simp [alike, alikes_refl l]
theorem alikes_refl {b : Bool} : ∀ l : DL, alikes b l l = true
  | .nil => by simp [alikes]
  | .cons d l => by simp [alikes, alike_refl d, alikes_refl l]
end
abbrev Fn (lk : Addr → Obj → Prop) : Prop := ∀ a o o', lk a o → lk a o' → o = o'
section
variable {w : World} {lk : Addr → Obj → Prop}
theorem inst_inj {C C' da da' : Addr} (h : instObj C da = instObj C' da') : C = C' ∧ da = da' := by
  simp only [Obj.mk.injEq, Value.ref.injEq, Option.some.injEq] at h
  exact ⟨h.1, h.2.1⟩
theorem dict_inj {es es' : List DictEntry} {n n' : Nat} (h : dictOf es n = dictOf es' n') : es = es' := by
  simp only [Obj.mk.injEq, Data.dict.injEq] at h
  simpa using h.2.2.1.1
theorem listOf_inj {vs vs' : List Value} {n n' : Nat} (h : PySem.W.listOf vs.toArray n = PySem.W.listOf vs'.toArray n') : vs = vs' := by
  simp only [PySem.W.listOf, Obj.mk.injEq, Data.seq.injEq] at h
  simpa using h.2.2.1.1
theorem ints_inj {vs : List Value} {a b : List Int} (h : IntsAre vs a) (h' : IntsAre vs b) : a = b := by rw [← h.nums, ← h'.nums]
theorem sp_unique (fn : Fn lk) {sp sp' : Option Int} {v : Value} (h : SpAt lk sp v) (h' : SpAt lk sp' v) : sp = sp' := by
  cases sp with
  | none =>
    obtain rfl : v = .none := h
    cases sp' with
    | none => rfl
    | some k => obtain ⟨y, t, n, m, a1, a2, a3, e, _⟩ := h'; cases e
  | some k =>
    obtain ⟨y, t, n, m, a1, a2, a3, rfl, e1, e2⟩ := h
    cases sp' with
    | none => exact absurd (show Value.ref y = Value.none from h') (by simp)
    | some k' =>
      obtain ⟨y', t', n', m', b1, b2, b3, e, f1, f2⟩ := h'
      cases e
      have q := fn _ _ _ e1 f1
      have q' : [Value.ref t] = [Value.ref t'] := listOf_inj q
      cases q'
      have q := fn _ _ _ e2 f2
      simp only [tupO, Obj.mk.injEq, Data.seq.injEq] at q
      have := q.2.2.1.1
      simp at this
      rw [this.2.2.1]
mutual
theorem at_unique (fn : Fn lk) : ∀ {d e : D} {v : Value}, At w lk d v → At w lk e v → d = e
  | .int i, e, v, h, h' => by
    simp only [At] at h
    obtain ⟨t, rfl⟩ := h
    cases e <;> simp only [At] at h'
    case int j => obtain ⟨t', h'⟩ := h'; cases h'; rfl
    all_goals (exact absurd h'.1 (by simp))
  | .sym a, e, v, h, h' => by
    simp only [At] at h
    obtain ⟨rfl, da, es, n, h1, _⟩ := h
    cases e <;> simp only [At] at h'
    case int j => obtain ⟨t', h'⟩ := h'; cases h'
    case sym b => obtain ⟨e, _⟩ := h'; cases e; rfl
    case text b cs sp => obtain ⟨e, db, c, n', vs, t1, t2, sv, k1, _⟩ := h'; cases e; have := (inst_inj (fn _ _ _ h1 k1)).1; simp at this
    case cons b x y => obtain ⟨e, db, v1, v2, t1, t2, k1, _⟩ := h'; cases e; have := (inst_inj (fn _ _ _ h1 k1)).1; simp at this
    case vec b k l => obtain ⟨e, db, x, n', vs, t, k1, _⟩ := h'; cases e; have := (inst_inj (fn _ _ _ h1 k1)).1; cases k <;> simp at this
  | .text a cs sp, e, v, h, h' => by
    simp only [At] at h
    obtain ⟨rfl, da, c, n, vs, t1, t2, sv, h1, h2, h3, hi, _, hs⟩ := h
    cases e <;> simp only [At] at h'
    case int j => obtain ⟨t', h'⟩ := h'; cases h'
    case sym b => obtain ⟨e, da', es, n', k1, _⟩ := h'; cases e; have := (inst_inj (fn _ _ _ h1 k1)).1; simp at this
    case text b cs' sp' =>
      obtain ⟨e, db, c', n', vs', t1', t2', sv', k1, k2, k3, ki, _, ks⟩ := h'
      cases e
      obtain ⟨_, rfl⟩ := inst_inj (fn _ _ _ h1 k1)
      have q := dict_inj (fn _ _ _ h2 k2)
      simp only [List.cons.injEq, DictEntry.mk.injEq, Value.ref.injEq, and_true, true_and] at q
      obtain ⟨⟨_, rfl⟩, _, rfl⟩ := q
      have q := listOf_inj (fn _ _ _ h3 k3)
      subst q
      rw [ints_inj hi ki, sp_unique fn hs ks]
    case cons b x y => obtain ⟨e, db, v1, v2, t1', t2', k1, _⟩ := h'; cases e; have := (inst_inj (fn _ _ _ h1 k1)).1; simp at this
    case vec b k l => obtain ⟨e, db, x, n', vs', t, k1, _⟩ := h'; cases e; have := (inst_inj (fn _ _ _ h1 k1)).1; cases k <;> simp at this
  | .cons a x y, e, v, h, h' => by
    simp only [At] at h
    obtain ⟨rfl, da, v1, v2, t1, t2, h1, h2, hx, hy⟩ := h
    cases e <;> simp only [At] at h'
    case int j => obtain ⟨t', h'⟩ := h'; cases h'
    case sym b => obtain ⟨e, da', es, n', k1, _⟩ := h'; cases e; have := (inst_inj (fn _ _ _ h1 k1)).1; simp at this
    case text b cs' sp' => obtain ⟨e, db, c', n', vs', t1', t2', sv', k1, _⟩ := h'; cases e; have := (inst_inj (fn _ _ _ h1 k1)).1; simp at this
    case cons b x' y' =>
      obtain ⟨e, db, u1, u2, t1', t2', k1, k2, kx, ky⟩ := h'
      cases e
      obtain ⟨_, rfl⟩ := inst_inj (fn _ _ _ h1 k1)
      have q := dict_inj (fn _ _ _ h2 k2)
      simp only [List.cons.injEq, DictEntry.mk.injEq, and_true, true_and] at q
      obtain ⟨⟨_, rfl⟩, _, rfl⟩ := q
      rw [at_unique fn hx kx, at_unique fn hy ky]
    case vec b k l => obtain ⟨e, db, x', n', vs', t, k1, _⟩ := h'; cases e; have := (inst_inj (fn _ _ _ h1 k1)).1; cases k <;> simp at this
  | .vec a k l, e, v, h, h' => by
    simp only [At] at h
    obtain ⟨rfl, da, x, n, vs, t, h1, h2, h3, hl, _⟩ := h
    cases e <;> simp only [At] at h'
    case int j => obtain ⟨t', h'⟩ := h'; cases h'
    case sym b => obtain ⟨e, da', es, n', k1, _⟩ := h'; cases e; have := (inst_inj (fn _ _ _ h1 k1)).1; cases k <;> simp at this
    case text b cs' sp' => obtain ⟨e, db, c', n', vs', t1', t2', sv', k1, _⟩ := h'; cases e; have := (inst_inj (fn _ _ _ h1 k1)).1; cases k <;> simp at this
    case cons b x' y' => obtain ⟨e, db, u1, u2, t1', t2', k1, _⟩ := h'; cases e; have := (inst_inj (fn _ _ _ h1 k1)).1; cases k <;> simp at this
    case vec b k' l' =>
      obtain ⟨e, db, x', n', vs', t', k1, k2, k3, kl, _⟩ := h'
      cases e
      obtain ⟨ek, rfl⟩ := inst_inj (fn _ _ _ h1 k1)
      have q := dict_inj (fn _ _ _ h2 k2)
      simp only [List.cons.injEq, DictEntry.mk.injEq, Value.ref.injEq, and_true, true_and] at q
      obtain ⟨_, rfl⟩ := q
      have q := listOf_inj (fn _ _ _ h3 k3)
      subst q
      rw [ats_unique fn hl kl]
      cases k <;> cases k' <;> simp at ek <;> rfl
theorem ats_unique (fn : Fn lk) : ∀ {l r : DL} {vs : List Value}, Ats w lk l vs → Ats w lk r vs → l = r
  | .nil, r, vs, h, h' => by
    simp only [Ats] at h; subst h
    cases r <;> simp only [Ats] at h'
    case nil => rfl
    case cons d l => obtain ⟨v, q, e, _⟩ := h'; cases e
  | .cons d l, r, vs, h, h' => by
    simp only [Ats] at h
    obtain ⟨v, q, rfl, hd, hl⟩ := h
    cases r <;> simp only [Ats] at h'
    case nil => cases h'
    case cons e r =>
      obtain ⟨v', q', e', kd, kl⟩ := h'
      cases e'
      rw [at_unique fn hd kd, ats_unique fn hl kl]
end
theorem At.ref_eq {d : D} {v : Value} {a : Addr} (h : At w lk d v) (e : d.ref = some a) : v = .ref a := by
  cases d <;> simp only [At, D.ref, Option.some.injEq, reduceCtorEq] at h e
  all_goals (rw [← e]; exact h.1)
theorem same_unique (fn : Fn lk) {d e : D} {v u : Value} {a : Addr} (h : At w lk d v) (h' : At w lk e u) (r : d.ref = some a) (r' : e.ref = some a) : d = e := by
  have := h.ref_eq r; have := h'.ref_eq r'
  subst_vars
  exact at_unique fn h h'
mutual
theorem eqv_alike (fn : Fn lk) {sa : D → D → Bool} {b : Bool} (hs : ∀ a cs sp a' cs' sp', sa (.text a cs sp) (.text a' cs' sp') = (!b || sp == sp')) : ∀ {d e : D} {v u : Value}, At w lk d v → At w lk e u → eqv sa d e = alike b d e
  | .int i, e, v, u, h, h' => by cases e <;> simp [eqv, alike, D.same, D.ref]
  | .sym a, e, v, u, h, h' => by cases e <;> simp [eqv, alike]
  | .text a cs sp, e, v, u, h, h' => by
    cases e with
    | int i => simp [eqv, alike, D.same, D.ref]
    | sym b => simp [eqv, alike]
    | text a' cs' sp' =>
      by_cases q : a = a'
      · have := same_unique fn h h' (a := a) rfl (by rw [q]; rfl)
        rw [← this]; simp [eqv, alike]
      · have z : (a == a') = false := by simpa using q
        simp [eqv, alike, z, hs]
    | cons a' x y =>
      have q : a ≠ a' := fun q => by have := same_unique fn h h' (a := a) rfl (by rw [q]; rfl); cases this
      simp [eqv, alike, D.same, D.ref, q]
    | vec a' k l =>
      have q : a ≠ a' := fun q => by have := same_unique fn h h' (a := a) rfl (by rw [q]; rfl); cases this
      simp [eqv, alike, D.same, D.ref, q]
  | .cons a x y, e, v, u, h, h' => by
    cases e with
    | int i => simp [eqv, alike, D.same, D.ref]
    | sym b => simp [eqv, alike]
    | text a' cs' sp' =>
      have q : a ≠ a' := fun q => by have := same_unique fn h h' (a := a) rfl (by rw [q]; rfl); cases this
      simp [eqv, alike, D.same, D.ref, q]
    | cons a' x' y' =>
      by_cases q : a = a'
      · have := same_unique fn h h' (a := a) rfl (by rw [q]; rfl)
        rw [← this]; rw [alike_refl]; simp [eqv]
      · simp only [At] at h h'
        obtain ⟨_, da, v1, v2, t1, t2, _, _, hx, hy⟩ := h
        obtain ⟨_, db, u1, u2, t3, t4, _, _, kx, ky⟩ := h'
        have z : (a == a') = false := by simpa using q
        simp only [eqv, alike, z, Bool.false_or]
        rw [eqv_alike fn hs hx kx, eqv_alike fn hs hy ky]
    | vec a' k l =>
      have q : a ≠ a' := fun q => by have := same_unique fn h h' (a := a) rfl (by rw [q]; rfl); cases this
      simp [eqv, alike, D.same, D.ref, q]
  | .vec a k l, e, v, u, h, h' => by
    cases e with
    | int i => simp [eqv, alike, D.same, D.ref]
    | sym b => simp [eqv, alike]
    | text a' cs' sp' =>
      have q : a ≠ a' := fun q => by have := same_unique fn h h' (a := a) rfl (by rw [q]; rfl); cases this
      simp [eqv, alike, D.same, D.ref, q]
    | cons a' x' y' =>
      have q : a ≠ a' := fun q => by have := same_unique fn h h' (a := a) rfl (by rw [q]; rfl); cases this
      simp [eqv, alike, D.same, D.ref, q]
    | vec a' k' l' =>
      by_cases q : a = a'
      · have := same_unique fn h h' (a := a) rfl (by rw [q]; rfl)
        rw [← this]; rw [alike_refl]; simp [eqv]
      · simp only [At] at h h'
        obtain ⟨_, da, x, n, vs, t, _, _, _, hl, _⟩ := h
        obtain ⟨_, db, x', n', vs', t', _, _, _, kl, _⟩ := h'
        have z : (a == a') = false := by simpa using q
        simp only [eqv, alike, z, Bool.false_or]
        rw [eqvs_alikes fn hs hl kl]
theorem eqvs_alikes (fn : Fn lk) {sa : D → D → Bool} {b : Bool} (hs : ∀ a cs sp a' cs' sp', sa (.text a cs sp) (.text a' cs' sp') = (!b || sp == sp')) : ∀ {l r : DL} {vs us : List Value}, Ats w lk l vs → Ats w lk r us → eqvs sa l r = alikes b l r
  | .nil, r, vs, us, h, h' => by cases r <;> simp [eqvs, alikes]
  | .cons d l, r, vs, us, h, h' => by
    cases r with
    | nil => simp [eqvs, alikes]
    | cons e r =>
      simp only [Ats] at h h'
      obtain ⟨v, q, rfl, hd, hl⟩ := h
      obtain ⟨v', q', rfl, kd, kl⟩ := h'
      simp only [eqvs, alikes]
      rw [eqv_alike fn hs hd kd, eqvs_alikes fn hs hl kl]
end
end
end Pl2X

open PySem PySem.W PySem.Calls PyProof.Rows in
theorem rstT15 {M : Model} {A : Around} {env : Env} {Q : Flow → Shared → Prop} {E : Value → Shared → Prop} {s : Shared} (h : Q Flow.next s) : wpAny M A (execs [] env) Q E s := by
  w_top off
  first | (walk1; exact h) | exact wpAny_execs_nil h
section T15X
open PySem PySem.W PySem.Calls PyProof.Rows
set_option Elab.async false
set_option maxRecDepth 100000
open PyProof.Rows.LCg
theorem ne_nil {prog : Program} {w : World} {A : Around} {E : Value → Shared → Prop} {s : Shared} {Q : Value → Shared → Prop} {l b : Addr} {items : Array Value} (hl : s.heap.IsList l items) (hb : s.heap.IsList b #[]) (hu : A.units < cLine) (h : Q (.bool (!items.isEmpty)) s) :
    wpAny (model prog w) A (compareOp .NotEq (.ref l) (.ref b)) Q E s := by
  refine cmp_ofNotEq ?_
  by_cases e : items.isEmpty = true
  · have e' : items = #[] := by simpa using e
    subst e'
    exact PySem.SeqAt.RcNeAt.lists (e := fun _ => true) hl hb rfl hu (fun j h1 => absurd h1 (Nat.not_lt_zero _)) prog w E Q (by simpa using h)
  · have e' : items.isEmpty = false := by simpa using e
    refine PySem.SeqAt.RcNeAt.lists_lengths hl hb ?_ hu prog w E Q (by rw [e'] at h; simpa using h)
    simp only [bne_iff_ne, ne_eq]
    intro q
    apply e
    simp [Array.isEmpty] at q ⊢
    exact q
def SZ : Nat → Nat
  | 0 => 1
  | n + 1 => 3 * SZ n + 4
theorem SZ_pos : ∀ n, 1 ≤ SZ n
  | 0 => Nat.le_refl _
  | n + 1 => by simp only [SZ]; omega
def DL.snoc : DL → D → DL
  | .nil, d => .cons d .nil
  | .cons e l, d => .cons e (l.snoc d)
theorem DL.snoc_len : ∀ (l : DL) (d : D), (l.snoc d).len = l.len + 1
  | .nil, d => rfl
  | .cons e l, d => by simp only [DL.snoc, DL.len, DL.snoc_len l d]
theorem DL.snoc_size : ∀ (l : DL) (d : D), (l.snoc d).size = l.size + d.size
  | .nil, d => by simp [DL.snoc, DL.size]
  | .cons e l, d => by simp only [DL.snoc, DL.size, DL.snoc_size l d]; omega
theorem DL.snoc_depth : ∀ (l : DL) (d : D), (l.snoc d).depth = max l.depth d.depth
  | .nil, d => by simp [DL.snoc, DL.depth]
  | .cons e l, d => by simp only [DL.snoc, DL.depth, DL.snoc_depth l d]; exact (Nat.max_assoc _ _ _).symm
theorem Ats.snoc {w : World} {lk : Addr → Obj → Prop} {d : D} {v : Value} (hd : At w lk d v) : ∀ {l : DL} {vs : List Value}, Ats w lk l vs → Ats w lk (l.snoc d) (vs ++ [v])
  | .nil, vs, h => by simp only [Ats] at h; subst h; simp only [DL.snoc, Ats]; exact ⟨v, [], rfl, hd, rfl⟩
  | .cons e l, vs, h => by
    simp only [Ats] at h
    obtain ⟨x, r, rfl, a, b⟩ := h
    simp only [DL.snoc, Ats]
    exact ⟨x, r ++ [v], rfl, a, b.snoc hd⟩
theorem TokR.mono {n n' m : Nat} {v : Value} (h : n' ≤ n) (t : TokR n v m) : TokR n' v m := fun i x e => ⟨Nat.le_trans h (t i x e).1, (t i x e).2⟩
def Gives3 (w : World) (lk : Addr → Obj → Prop) (K R Nm : Addr) (s : Shared) (sz dp : Nat) (ok : Value → Nat → Prop) (Q : Value → Shared → Prop) : Prop :=
  ∀ d v nw oK' oR' oN' h' tk', Born s.heap h' nw → At w (LK lk nw) d v → d.size ≤ sz → d.depth ≤ dp → Deck oK' → Tab w (LK lk nw) oR' oN' → h'.get? K = some oK' → h'.get? R = some oR' → h'.get? Nm = some oN' → Frame [K, R, Nm] s.heap h' → ok v tk' → Q v { s with heap := h', toks := tk' }
theorem tail8 {g h : Heap} {L : Addr} {a b c d e f i j : Addr × Obj} {nw : List (Addr × Obj)} (_ : News g L h (a :: b :: c :: d :: e :: f :: i :: j :: nw)) : ∀ p ∈ nw, p ∈ a :: b :: c :: d :: e :: f :: i :: j :: nw := fun p hp => by
  iterate 8 refine List.mem_cons_of_mem _ ?_
  exact hp
theorem tail9 {g h : Heap} {L : Addr} {a b c d e f i j k : Addr × Obj} {nw : List (Addr × Obj)} (_ : News g L h (a :: b :: c :: d :: e :: f :: i :: j :: k :: nw)) : ∀ p ∈ nw, p ∈ a :: b :: c :: d :: e :: f :: i :: j :: k :: nw := fun p hp => by
  iterate 9 refine List.mem_cons_of_mem _ ?_
  exact hp
theorem frW {h0 h h' : Heap} {W : List Addr} {L : Addr} {m : Str → Option Value} (F : Fr (hideAll h0 W) L h m) (fr : Frame W h h') (hL : L ∉ W) : Fr (hideAll h0 W) L h' m := by
  obtain ⟨oL, es, ep, hL', r⟩ := F.ns
  exact ⟨⟨oL, es, ep, fr _ _ hL hL', r⟩, fun b o e => fr _ _ (fun q => by rw [hideAll_none _ q] at e; cases e) (F.keep b o e), F.above⟩
theorem born_up {h0 h h' : Heap} {W : List Addr} {nw : List (Addr × Obj)} (f0 : Frame W h0 h) (al : ∀ a ∈ W, ∃ o, h.get? a = some o) (hB : Born h h' nw) : Born h0 h' nw := fun p hp => by
  refine ⟨(hB p hp).1, ?_⟩
  cases q : h0.get? p.1 with
  | none => rfl
  | some o =>
    by_cases e : p.1 ∈ W
    · obtain ⟨o', e'⟩ := al _ e; rw [(hB p hp).2] at e'; cases e'
    · have := f0 _ _ e q; rw [(hB p hp).2] at this; cases this
def MadeS (w : World) (n : Nat) : Prop :=
  ∀ {outer : List Env} {s : Shared} {dp un : Nat} {gd : Option (List Code)} {lk : Addr → Obj → Prop} {K R Nm tb tw : Addr} {oK oR oN : Obj} {t : Tok} {Q E : Value → Shared → Prop},
    Gd w [K, R, Nm] outer s.heap → (∀ a o, lk a o → (hideAll s.heap [K, R, Nm]).get? a = some o) → Wd w lk K R Nm tb tw → s.heap.get? K = some oK → s.heap.get? R = some oR → s.heap.get? Nm = some oN → Deck oK → Tab w lk oR oN →
    dp + 30 + n < recursionLimit → un + 3000 + 100 * n < cLine → Gives3 w lk K R Nm s (SZ n) (3 * n) (TokR (s.toks + 1)) Q →
    wpAny (model PySem.Challenge.rw_np0028_01.row.prog w) (Ar dp un gd outer) (call (.ref 349) [.ref K, .ref tb, .ref tw, .int (n : Nat) t]) Q E s
theorem made_call {w : World} {n : Nat} (H : MadeS w n) {outer : List Env} {s : Shared} {dp un : Nat} {gd : Option (List Code)} {lk : Addr → Obj → Prop} {K R Nm tb tw : Addr} {oK oR oN : Obj} {t : Tok} {Q E : Value → Shared → Prop}
    (G : Gd w [K, R, Nm] outer s.heap) (hlk : ∀ a o, lk a o → (hideAll s.heap [K, R, Nm]).get? a = some o) (wd : Wd w lk K R Nm tb tw) (hK : s.heap.get? K = some oK) (hR : s.heap.get? R = some oR) (hNm : s.heap.get? Nm = some oN) (dk : Deck oK) (tab : Tab w lk oR oN)
    (hdp : dp + 30 + n < recursionLimit) (hun : un + 3000 + 100 * n < cLine) (ret : Gives3 w lk K R Nm s (SZ n) (3 * n) (TokR (s.toks + 1)) Q) :
    wpAny (model PySem.Challenge.rw_np0028_01.row.prog w) (Ar dp un gd outer) (call (.ref 349) [.ref K, .ref tb, .ref tw, .int (n : Nat) t]) Q E s := H G hlk wd hK hR hNm dk tab hdp hun ret
set_option maxHeartbeats 8000000 in
theorem made_step {w : World} {n : Nat} (IH : ∀ m, n = m + 1 → MadeS w m) {outer : List Env} {s : Shared} {dp un : Nat} {gd : Option (List Code)} {lk : Addr → Obj → Prop} {K R Nm tb tw : Addr} {oK oR oN : Obj} {t : Tok} {Q E : Value → Shared → Prop}
    (G : Gd w [K, R, Nm] outer s.heap) (hlk : ∀ a o, lk a o → (hideAll s.heap [K, R, Nm]).get? a = some o) (wd : Wd w lk K R Nm tb tw) (hK : s.heap.get? K = some oK) (hR : s.heap.get? R = some oR) (hNm : s.heap.get? Nm = some oN) (dk : Deck oK) (tab : Tab w lk oR oN)
    (hdp : dp + 30 + n < recursionLimit) (hun : un + 3000 + 100 * n < cLine) (ret : Gives3 w lk K R Nm s (SZ n) (3 * n) (TokR (s.toks + 1)) Q) :
    wpAny (model PySem.Challenge.rw_np0028_01.row.prog w) (Ar dp un gd outer) (call (.ref 349) [.ref K, .ref tb, .ref tw, .int (n : Nat) t]) Q E s := by
  have hun2 := roomZ hun
  have hdp2 := roomZ hdp
  have KR := wd.KR
  have KN := wd.KN
  have RN := wd.RN
  have lo := wd.lo
  have LK1 : @LT.lt Nat _ K s.heap.objs.size := Heap.lt_size hK
  have LR1 : @LT.lt Nat _ R s.heap.objs.size := Heap.lt_size hR
  have LN1 : @LT.lt Nat _ Nm s.heap.objs.size := Heap.lt_size hNm
  have hgW : ∀ a ∈ [K, R, Nm], (hideAll s.heap [K, R, Nm]).get? a = none := fun a ha => hideAll_none _ ha
  have hgL : ∀ a ∈ [K, R, Nm], a ≠ s.heap.objs.size ∧ (hideAll s.heap [K, R, Nm]).get? a = none := by
    intro a ha
    refine ⟨?_, hgW a ha⟩
    simp only [List.mem_cons, List.not_mem_nil, or_false] at ha
    rcases ha with rfl | rfl | rfl
    · exact Nat.ne_of_lt LK1
    · exact Nat.ne_of_lt LR1
    · exact Nat.ne_of_lt LN1
  refine wpAny_call ?_
  refine enterCT (binds := [(Str.ofString "deck", .ref K), (Str.ofString "table", .ref tb), (Str.ofString "twin", .ref tw), (Str.ofString "deep", .int (n : Nat) t)]) G (by omega) (by k_is) (by k_is) (BindsTo.of_eq rfl) rfl (by decide +kernel) rfl rfl rfl ?_
  intro base p loose mean mg mb h₁ tk₁ cells le1 F hN Y B T
  have X := G.X
  have N := hN [(K, oK), (R, oR), (Nm, oN)] (by intro q hq; simp only [List.mem_cons, List.not_mem_nil, or_false] at hq ⊢; rcases hq with rfl | rfl | rfl; exact ⟨.inl rfl, hK⟩; exact ⟨.inr (.inl rfl), hR⟩; exact ⟨.inr (.inr rfl), hNm⟩)
  have hB := PLift.up B
  clear hN B
  k_cells Y
  simp only [List.cons_append, List.nil_append] at N
  rename_i o4 o3 o2 o1 hc4 hc3 hc2 hc1
  try dsimp only
  try k_fold
  repeat' (first | k_unfold | ((fail_if_success (with_reducible show wpAny _ _ (exec (Stmt.Assign _ (PySem.Expr.ListComp _ _ _ _) _) _) _ _ _)); walk1) | ((fail_if_success (with_reducible show wpAny _ _ (exec (Stmt.Assign _ (PySem.Expr.ListComp _ _ _ _) _) _) _ _ _)); dsimp only; walk1))
  ·
    rename Obj => ok2
    rename News _ _ _ _ => N2
    rename Fr _ _ _ _ => F2
    rename Deck _ => dk2
    refine atom_spec (G.push F2 hgL) (fun a o e => lkW (tl := []) F2 N2 hlk (fun _ h => nomatch h) (fun _ h => nomatch h) hgW a o (.inl e)) wd (News.get N2 (by k_mem)) (News.get N2 (by k_mem)) (News.get N2 (by k_mem)) dk2 tab (by show dp + 1 + 20 < recursionLimit; units_room) (by show un + 3 + 2000 < cLine; units_room) ?_
    intro d v nw oK' oR' oN' h' tk' hB' at' sz' dp' dk' tab' eK eR eN fr' tok'
    have f0 : Frame [K, R, Nm] s.heap _ := Frame.of_Fr F2
    refine ret d v nw oK' oR' oN' h' tk' (born_up f0 (fun a ha => ?_) hB') at' (by have := SZ_pos n; omega) (by omega) dk' tab' eK eR eN (f0.trans fr') (tok'.mono (by (try dsimp only); omega))
    simp only [List.mem_cons, List.not_mem_nil, or_false] at ha
    rcases ha with rfl | rfl | rfl
    · exact ⟨_, News.get N2 (by k_mem)⟩
    · exact ⟨_, News.get N2 (by k_mem)⟩
    · exact ⟨_, News.get N2 (by k_mem)⟩
  ·
    rename Obj => ok2
    rename News _ _ _ _ => N2
    rename Fr _ _ _ _ => F2
    rename Deck _ => dk2
    refine atom_spec (G.push F2 hgL) (fun a o e => lkW (tl := []) F2 N2 hlk (fun _ h => nomatch h) (fun _ h => nomatch h) hgW a o (.inl e)) wd (News.get N2 (by k_mem)) (News.get N2 (by k_mem)) (News.get N2 (by k_mem)) dk2 tab (by show dp + 1 + 20 < recursionLimit; units_room) (by show un + 3 + 2000 < cLine; units_room) ?_
    intro d v nw oK' oR' oN' h' tk' hB' at' sz' dp' dk' tab' eK eR eN fr' tok'
    have f0 : Frame [K, R, Nm] s.heap _ := Frame.of_Fr F2
    refine ret d v nw oK' oR' oN' h' tk' (born_up f0 (fun a ha => ?_) hB') at' (by have := SZ_pos n; omega) (by omega) dk' tab' eK eR eN (f0.trans fr') (tok'.mono (by (try dsimp only); omega))
    simp only [List.mem_cons, List.not_mem_nil, or_false] at ha
    rcases ha with rfl | rfl | rfl
    · exact ⟨_, News.get N2 (by k_mem)⟩
    · exact ⟨_, News.get N2 (by k_mem)⟩
    · exact ⟨_, News.get N2 (by k_mem)⟩
  · rename Obj => ok2
    rename News _ _ _ _ => N2
    rename Fr _ _ _ _ => F2
    rename Deck _ => dk2
    obtain ⟨m, rfl⟩ : ∃ m, n = m + 1 := ⟨n - 1, by omega⟩
    have IHm : MadeS w m := IH m rfl
    have hsc := F2
    k_dflt (refine comp_use (V := VL _ _ _ (Str.ofString "turn")) (by with_unfolding_all rfl) (tv_local (by decide) (by rfl) (by rfl)) (by with_unfolding_all rfl) (by rfl) (by decide) (by intro _; with_unfolding_all rfl) (by intro _ _; rfl) ?_)
    clear hsc
    repeat' (first | (k_unfold; (try dsimp only)) | ((fail_if_success (with_reducible show wpAny _ _ (call (Value.ref 339) _) _ _ _)); walk1) | ((fail_if_success (with_reducible show wpAny _ _ (call (Value.ref 339) _) _ _ _)); dsimp only; walk1))
    refine draw_spec (gd1 (by assumption) (by k_asm) (by k_asm) (by k_updF)) (get1 (by k_asm) (by k_updF)) (by assumption) (by omega) (by omega) (by dsimp only; omega) (by dsimp only; omega) ?_
    intro k3 t3 ok3 h3 tk3 p3 p4 dk3 hK3 fr3
    obtain ⟨F3, N3⟩ := after1 F2 N2 (by k_updF) fr3 hK3
    clear F2 N2 fr3 hK3 dk2
    try dsimp only at N3
    obtain ⟨n3, rfl⟩ : ∃ n : Nat, k3 = n := ⟨k3.toNat, by omega⟩
    repeat' (first | (k_unfold; (try dsimp only)) | ((fail_if_success (with_reducible show wpAny _ _ (pyIter _) _ _ _)); walk1) | ((fail_if_success (with_reducible show wpAny _ _ (pyIter _) _ _ _)); dsimp only; walk1))
    rename IsRange _ _ _ _ _ _ _ _ => hr4
    rename News _ _ _ _ => N4
    rename Fr _ _ _ _ => F4
    have h012 : n3 = 0 ∨ n3 = 1 ∨ n3 = 2 ∨ n3 = 3 := by omega
    have N4' : News (hideAll s.heap [K, R, Nm]) s.heap.objs.size _ ([(K, ok3), (R, oR), (Nm, oN)] ++ [(s.heap.objs.size + 1 + 1 + 1 + 1, o4), (s.heap.objs.size + 1 + 1 + 1, o3), (s.heap.objs.size + 1 + 1, o2), (s.heap.objs.size + 1, o1)]) := fun p hp => N4 p (by simp only [List.mem_append, List.mem_cons, List.not_mem_nil, or_false] at hp ⊢; rcases hp with (h | h | h) | h | h | h | h <;> simp [h])
    have gK := (N4' (K, ok3) List.mem_cons_self).1
    refine gsrc_range (ws := [(K, ok3), (R, oR), (Nm, oN)]) (n := n3) (fun i rs nw ws => ∃ l a b c, ws = [(K, a), (R, b), (Nm, c)] ∧ Deck a ∧ Tab w (LK lk nw) b c ∧ Ats w (LK lk nw) l rs ∧ l.len = i ∧ l.size ≤ i * SZ m ∧ l.depth ≤ 3 * m ∧ ∀ p ∈ nw, p.1 ∉ [K, R, Nm]) rfl hr4
      (by rcases h012 with rfl | rfl | rfl | rfl <;> decide) (by rcases h012 with rfl | rfl | rfl | rfl <;> decide) (by rw [sizeLine_eq]; omega) F4 N4' ?_ ⟨.nil, ok3, oR, oN, rfl, dk3, tab.mono fun _ _ z => .inl z, rfl, rfl, by simp [DL.size], by simp [DL.depth], fun _ h => nomatch h⟩ ?_ ?_
    · intro p hp
      simp only [List.map_cons, List.map_nil, List.mem_cons, List.not_mem_nil, or_false] at hp ⊢
      rcases hp with rfl | rfl | rfl | rfl <;> (rintro (h | h | h) <;> exact absurd h (by k_ne))
    · intro g5 i x cenv objs h5 tk5 rs nw ws' E' hi hx hV hfg F5 N5 hog hwm hG hBg
      obtain ⟨l, oK5, oR5, oN5, rfl, dk5, tab5, ats5, hl5, sz5, dp5, off5⟩ := hG
      refine wpAny_tests_nil ?_
      simp only [if_true]
      obtain ⟨C, oC, m₂, hE, hC, rfl, hoC, hmx⟩ := hV
      rw [hE]
      clear F4 N4 N4'
      simp only [List.cons_append, List.nil_append] at N5
      repeat' (first | (k_unfold; (try dsimp only)) | ((fail_if_success (with_reducible show wpAny _ _ (call (Value.ref 349) _) _ _ _)); walk1) | ((fail_if_success (with_reducible show wpAny _ _ (call (Value.ref 349) _) _ _ _)); dsimp only; walk1))
      rw [show (((m + 1 : Nat) : Int) - 1) = (m : Nat) by omega]
      have eK5 := (N5 (K, oK5) (by k_mem)).1
      have eR5 := (N5 (R, oR5) (by k_mem)).1
      have eN5 := (N5 (Nm, oN5) (by k_mem)).1
      refine made_call IHm (lk := LK lk nw) (G.push F5 hgL) ?_ (wd.mono fun _ _ z => .inl z) eK5 eR5 eN5 dk5 tab5 (by show dp + 1 + 30 + m < recursionLimit; units_room) (by show un + 3 + 3000 + 100 * m < cLine; units_room) ?_
      · rintro a o (z | z)
        · exact lkW (tl := []) F5 N5 hlk (fun _ h => nomatch h) (fun _ h => nomatch h) hgW a o (.inl z)
        · exact hideAll_get _ (hBg _ z).1 (off5 _ z)
      intro d v nw2 oK' oR' oN' h' tk' hB' at' sz' dp' dk' tab' eK eR eN fr' _
      have up : ∀ a o, LK (LK lk nw) nw2 a o → LK lk (nw ++ nw2) a o := by
        rintro a o ((z | z) | z)
        · exact .inl z
        · exact .inr (List.mem_append_left _ z)
        · exact .inr (List.mem_append_right _ z)
      refine ⟨h', _, nw2, [(K, oK'), (R, oR'), (Nm, oN')], rfl, fun b o hb e => fr' b o hb e, hB', rfl, fun p hp => ?_, l.snoc d, oK', oR', oN', rfl, dk', tab'.mono up, (ats5.mono fun a o z => up a o (.inl z)).snoc (at'.mono up), by rw [DL.snoc_len, hl5], ?_, ?_, ?_⟩
      · simp only [List.mem_cons, List.not_mem_nil, or_false] at hp
        rcases hp with rfl | rfl | rfl
        · exact eK
        · exact eR
        · exact eN
      · rw [DL.snoc_size, Nat.add_mul, Nat.one_mul]; omega
      · rw [DL.snoc_depth]; omega
      · intro p hp q
        rcases List.mem_append.mp hp with hp | hp
        · exact off5 p hp q
        · have := (hB' p hp).2
          simp only [List.mem_cons, List.not_mem_nil, or_false] at q
          rcases q with q | q | q
          · rw [q] at this; rw [eK5] at this; cases this
          · rw [q] at this; rw [eR5] at this; cases this
          · rw [q] at this; rw [eN5] at this; cases this
    · intro g5
      refine' GFin.store ?f1 ?n1 ?n0 ?n2 ?n3 ?_; (case f1 => exact F4); (case n0 => exact N4'); (case n2 => rfl); (case n3 => rfl)
      · intro p hp
        simp only [List.map_cons, List.map_nil, List.mem_cons, List.not_mem_nil, or_false] at hp ⊢
        rcases hp with rfl | rfl | rfl | rfl <;> (rintro (h | h | h) <;> exact absurd h (by k_ne))
      intro D0 h'' tk'' rs nw ws3 a2 a3 a4 a6 a7 a8 F5 N5
      obtain ⟨l, oK5, oR5, oN5, rfl, dk5, tab5, ats5, hl5, sz5, dp5, off5⟩ := a6
      obtain ⟨N5n, _⟩ := born_news F4 N4' N5 a7
      have N6 : News (hideAll s.heap [K, R, Nm]) s.heap.objs.size h'' ((D0, PySem.W.listOf rs.toArray rs.length) :: (K, oK5) :: (R, oR5) :: (Nm, oN5) :: (s.heap.objs.size + 1 + 1 + 1 + 1, o4) :: (s.heap.objs.size + 1 + 1 + 1, o3) :: (s.heap.objs.size + 1 + 1, o2) :: (s.heap.objs.size + 1, o1) :: nw) := by
        refine news_one F4 (fun p hp => ?_) a2 a3
        iterate 7 (rcases List.mem_cons.mp hp with rfl | hp; exact N5 _ (by simp))
        exact N5n p (List.mem_append_left _ hp)
      have gR := (N4' (R, oR) (by k_mem)).1
      have gN := (N4' (Nm, oN) (by k_mem)).1
      have ltK : @Ne Nat D0 K := fun q => by rw [q, gK] at a3; cases a3
      have ltR : @Ne Nat D0 R := fun q => by rw [q, gR] at a3; cases a3
      have ltN : @Ne Nat D0 Nm := fun q => by rw [q, gN] at a3; cases a3
      have offK : ∀ p ∈ nw, p.1 ≠ K := fun p hp q => off5 p hp (by rw [q]; exact List.mem_cons_self)
      have hnl : l.len ≤ 3 := by omega
      have szl : l.size ≤ 3 * SZ m := Nat.le_trans sz5 (Nat.mul_le_mul_right _ (by omega))
      have hrs := ats5.len
      clear N5 N5n N4 N4' F4 a2 gR gN
      try clear F3 N3
      have finL : ∀ (h9 : Heap) (tk9 : Nat) (tl : List (Addr × Obj)) (oK9 oR9 oN9 : Obj) (e9 : D) (u9 : Value) (m9 : Str → Option Value) (env9 : Env) (E9 : Value → Shared → Prop), (l ≠ .nil ∨ ∃ a, u9 = .ref a) → env9.frame = some s.heap.objs.size → env9.scope.kind = .function → Fr (hideAll s.heap [K, R, Nm]) s.heap.objs.size h9 m9 → h9.get? D0 = some (PySem.W.listOf rs.toArray rs.length) → h9.get? K = some oK9 → h9.get? R = some oR9 → h9.get? Nm = some oN9 →
          Born s.heap h9 tl → (∀ a o, LK lk tl a o → h9.get? a = some o) → Ats w (LK lk tl) l rs → At w (LK lk tl) e9 u9 → e9.size = 1 → e9.depth = 0 → Deck oK9 → Tab w (LK lk tl) oR9 oN9 →
          wpAny (model PySem.Challenge.rw_np0028_01.row.prog w) ((Ar dp un gd outer).deeper env9) (call (.ref 196) [.ref D0, u9]) Q E9 { s with heap := h9, toks := tk9 } := by
        intro h9 tk9 tl oK9 oR9 oN9 e9 u9 m9 env9 E9 hu9 ef ek F9 eD eK9 eR9 eN9 hB9 hl9 ats9 at9 z9 d9 dk9 tab9
        refine list_of_spec (lk := LK lk tl) (G.push0 F9 ef ek) (fun a o z => hide_up (hl9 a o z)) eD ats9 hnl at9 (by show dp + 1 + 8 < recursionLimit; units_room) (by show un + 3 + 400 < cLine; units_room) ?_
        intro d v nw2 h' tk' hB' at' sz' dp' fr' hv9
        have fr0 : ∀ b o, h9.get? b = some o → h'.get? b = some o := fun b o e => fr' b o (fun h => nomatch h) e
        refine ret d v (tl ++ nw2) oK9 oR9 oN9 h' tk' ?_ (at'.mono ?_) (by simp only [SZ]; omega) (by omega) dk9 (tab9.mono fun a o z => z.imp id (List.mem_append_left _)) (fr0 _ _ eK9) (fr0 _ _ eR9) (fr0 _ _ eN9) ((Frame.of_Fr F9).trans fun b o _ e => fr0 b o e) (by
          rcases hv9 with ⟨q1, rfl⟩ | ⟨a, rfl⟩
          · rcases hu9 with q | ⟨a, rfl⟩
            · exact absurd q1 q
            · exact TokR.ref
          · exact TokR.ref)
        · intro p hp
          rcases List.mem_append.mp hp with hp | hp
          · exact ⟨fr0 _ _ (hB9 p hp).1, (hB9 p hp).2⟩
          · refine born_up (h := h9) (Frame.of_Fr F9) (fun a ha => ?_) hB' p hp
            simp only [List.mem_cons, List.not_mem_nil, or_false] at ha
            rcases ha with rfl | rfl | rfl
            · exact ⟨_, eK9⟩
            · exact ⟨_, eR9⟩
            · exact ⟨_, eN9⟩
        · rintro a o ((z | z) | z)
          · exact .inl z
          · exact .inr (List.mem_append_left _ z)
          · exact .inr (List.mem_append_right _ z)
      try k_fold
      repeat' (first | k_unfold | ((fail_if_success (with_reducible show wpAny _ _ (call (Value.ref 128) _) _ _ _)); (fail_if_success (with_reducible show wpAny _ _ (call (Value.ref 149) _) _ _ _)); (fail_if_success (with_reducible show wpAny _ _ (call (Value.ref 196) _) _ _ _)); (fail_if_success (with_reducible show wpAny _ _ (call (Value.ref 344) _) _ _ _)); (fail_if_success (with_reducible show wpAny _ _ (compareOp CmpOp.NotEq (Value.ref _) (Value.ref _)) _ _ _)); walk1) | ((fail_if_success (with_reducible show wpAny _ _ (call (Value.ref 128) _) _ _ _)); (fail_if_success (with_reducible show wpAny _ _ (call (Value.ref 149) _) _ _ _)); (fail_if_success (with_reducible show wpAny _ _ (call (Value.ref 196) _) _ _ _)); (fail_if_success (with_reducible show wpAny _ _ (call (Value.ref 344) _) _ _ _)); (fail_if_success (with_reducible show wpAny _ _ (compareOp CmpOp.NotEq (Value.ref _) (Value.ref _)) _ _ _)); dsimp only; walk1))
      · rename News _ _ _ _ => N9
        rename Fr _ _ _ _ => F9
        refine make_128 hB.down F9 X N9 T rfl rfl rfl (by omega) (by omega) ?_
        intro x dx t9 h9 tk9 kF kN l1 l2
        have b1 := l1 (K, oK5) (by k_mem)
        have b2 := l1 (R, oR5) (by k_mem)
        have b3 := l1 (Nm, oN5) (by k_mem)
        dsimp only at b1 b2 b3
        refine ret (.vec x false l) (.ref x) ((x, instObj 128 dx) :: (dx, dictOf [ent w "things" t9 (.ref D0)] 1) :: (D0, PySem.W.listOf rs.toArray rs.length) :: nw) oK5 oR5 oN5 h9 tk9 (born_W kN ?_ ?_) ?_ (by simp only [D.size, SZ]; omega) (by simp only [D.depth]; omega) dk5 (tab5.mono ?_) (kN (K, oK5) (by k_mem)).1 (kN (R, oR5) (by k_mem)).1 (kN (Nm, oN5) (by k_mem)).1 (Frame.of_Fr kF) TokR.ref
        · intro p hp
          iterate 3 (rcases List.mem_cons.mp hp with rfl | hp; k_mem)
          iterate 10 refine List.mem_cons_of_mem _ ?_
          exact hp
        · intro p hp
          rcases List.mem_cons.mp hp with rfl | hp
          · simp only [List.mem_cons, List.not_mem_nil, or_false]
            rintro (h | h | h) <;> exact absurd h (by k_ne)
          rcases List.mem_cons.mp hp with rfl | hp
          · simp only [List.mem_cons, List.not_mem_nil, or_false]
            rintro (h | h | h) <;> exact absurd h (by k_ne)
          rcases List.mem_cons.mp hp with rfl | hp
          · simp only [List.mem_cons, List.not_mem_nil, or_false]
            rintro (h | h | h) <;> exact absurd h (by k_ne)
          · exact off5 p hp
        · simp only [At]
          exact ⟨trivial, dx, D0, _, rs, t9, .inr List.mem_cons_self, .inr (List.mem_cons_of_mem _ List.mem_cons_self), .inr (List.mem_cons_of_mem _ (List.mem_cons_of_mem _ List.mem_cons_self)), ats5.mono fun a o z => z.imp id fun z => List.mem_cons_of_mem _ (List.mem_cons_of_mem _ (List.mem_cons_of_mem _ z)), hnl⟩
        · exact fun a o z => z.imp id fun z => List.mem_cons_of_mem _ (List.mem_cons_of_mem _ (List.mem_cons_of_mem _ z))
      · rename News _ _ _ _ => N9
        rename Fr _ _ _ _ => F9
        refine make_149 hB.down F9 X N9 T rfl rfl rfl (by omega) (by omega) ?_
        intro x dx t9 h9 tk9 kF kN l1 l2
        have b1 := l1 (K, oK5) (by k_mem)
        have b2 := l1 (R, oR5) (by k_mem)
        have b3 := l1 (Nm, oN5) (by k_mem)
        dsimp only at b1 b2 b3
        refine ret (.vec x true l) (.ref x) ((x, instObj 149 dx) :: (dx, dictOf [ent w "things" t9 (.ref D0)] 1) :: (D0, PySem.W.listOf rs.toArray rs.length) :: nw) oK5 oR5 oN5 h9 tk9 (born_W kN ?_ ?_) ?_ (by simp only [D.size, SZ]; omega) (by simp only [D.depth]; omega) dk5 (tab5.mono ?_) (kN (K, oK5) (by k_mem)).1 (kN (R, oR5) (by k_mem)).1 (kN (Nm, oN5) (by k_mem)).1 (Frame.of_Fr kF) TokR.ref
        · intro p hp
          iterate 3 (rcases List.mem_cons.mp hp with rfl | hp; k_mem)
          iterate 10 refine List.mem_cons_of_mem _ ?_
          exact hp
        · intro p hp
          rcases List.mem_cons.mp hp with rfl | hp
          · simp only [List.mem_cons, List.not_mem_nil, or_false]
            rintro (h | h | h) <;> exact absurd h (by k_ne)
          rcases List.mem_cons.mp hp with rfl | hp
          · simp only [List.mem_cons, List.not_mem_nil, or_false]
            rintro (h | h | h) <;> exact absurd h (by k_ne)
          rcases List.mem_cons.mp hp with rfl | hp
          · simp only [List.mem_cons, List.not_mem_nil, or_false]
            rintro (h | h | h) <;> exact absurd h (by k_ne)
          · exact off5 p hp
        · simp only [At]
          exact ⟨trivial, dx, D0, _, rs, t9, .inr List.mem_cons_self, .inr (List.mem_cons_of_mem _ List.mem_cons_self), .inr (List.mem_cons_of_mem _ (List.mem_cons_of_mem _ List.mem_cons_self)), ats5.mono fun a o z => z.imp id fun z => List.mem_cons_of_mem _ (List.mem_cons_of_mem _ (List.mem_cons_of_mem _ z)), hnl⟩
        · exact fun a o z => z.imp id fun z => List.mem_cons_of_mem _ (List.mem_cons_of_mem _ (List.mem_cons_of_mem _ z))
      · rename News _ _ _ _ => N9
        rename Fr _ _ _ _ => F9
        refine ne_nil (News.isList N9 (by k_mem)) (News.isList N9 (by k_mem)) (by show un + 3 < cLine; units_room) ?_
        have inN := tail9 N9
        cases hb : rs.toArray.isEmpty
        · simp only [Bool.not_false]
          repeat' (first | k_unfold | ((fail_if_success (with_reducible show wpAny _ _ (call (Value.ref 344) _) _ _ _)); (fail_if_success (with_reducible show wpAny _ _ (call (Value.ref 196) _) _ _ _)); walk1) | ((fail_if_success (with_reducible show wpAny _ _ (call (Value.ref 344) _) _ _ _)); (fail_if_success (with_reducible show wpAny _ _ (call (Value.ref 196) _) _ _ _)); dsimp only; walk1))
          refine atom_spec (lk := LK lk nw) (G.push F9 hgL) (lkW F9 N9 hlk inN off5 hgW) (wd.mono fun _ _ z => .inl z) (News.get N9 (by k_mem)) (News.get N9 (by k_mem)) (News.get N9 (by k_mem)) dk5 tab5 (by show dp + 1 + 20 < recursionLimit; units_room) (by show un + 3 + 2000 < cLine; units_room) ?_
          intro d v nw2 oK' oR' oN' h' tk' hB' at' sz' dp' dk' tab' eK eR eN fr' _
          have F10 := frW F9 fr' (fun q => absurd rfl (hgL _ q).1)
          have bN : Born s.heap _ nw := born_W N9 inN off5
          have gD := fr' _ _ (fun q => by simp only [List.mem_cons, List.not_mem_nil, or_false] at q; rcases q with q | q | q; exact ltK q; exact ltR q; exact ltN q) (News.get N9 (a := D0) (by k_mem))
          have aliv : ∀ a ∈ [K, R, Nm], ∃ o, Heap.get? _ a = some o := fun a ha => by
            simp only [List.mem_cons, List.not_mem_nil, or_false] at ha
            rcases ha with rfl | rfl | rfl
            · exact ⟨_, News.get N9 (o := oK5) (by k_mem)⟩
            · exact ⟨_, News.get N9 (o := oR5) (by k_mem)⟩
            · exact ⟨_, News.get N9 (o := oN5) (by k_mem)⟩
          have bA : Born s.heap h' (nw ++ nw2) := by
            intro p hp
            rcases List.mem_append.mp hp with hp | hp
            · exact ⟨fr' _ _ (off5 p hp) (bN p hp).1, (bN p hp).2⟩
            · exact born_up (Frame.of_Fr F9) aliv hB' p hp
          have up : ∀ a o, LK (LK lk nw) nw2 a o → LK lk (nw ++ nw2) a o := by
            rintro a o ((z | z) | z)
            · exact .inl z
            · exact .inr (List.mem_append_left _ z)
            · exact .inr (List.mem_append_right _ z)
          have hr := at'.handed
          clear N9 F9 N6
          try clear F5 N'
          repeat' (first | k_unfold | ((fail_if_success (with_reducible show wpAny _ _ (call (Value.ref 196) _) _ _ _)); walk1) | ((fail_if_success (with_reducible show wpAny _ _ (call (Value.ref 196) _) _ _ _)); dsimp only; walk1))
          refine finL _ _ (nw ++ nw2) oK' oR' oN' d v _ _ _ (.inl (fun q => by subst q; simp only [Ats] at ats5; subst ats5; simp at hb)) rfl rfl F10 gD eK eR eN bA ?_ (ats5.mono fun a o z => up a o (.inl z)) (at'.mono up) sz' dp' dk' (tab'.mono up)
          rintro a o (z | z)
          · exact F10.keep a o (hlk a o z)
          · exact (bA _ z).1
        · simp only [Bool.not_true]
          repeat' (first | k_unfold | ((fail_if_success (with_reducible show wpAny _ _ (call (Value.ref 196) _) _ _ _)); walk1) | ((fail_if_success (with_reducible show wpAny _ _ (call (Value.ref 196) _) _ _ _)); dsimp only; walk1))
          refine finL _ _ nw oK5 oR5 oN5 (.sym 64) _ _ _ _ (.inr ⟨_, rfl⟩) rfl rfl F9 (News.get N9 (a := D0) (by k_mem)) (News.get N9 (by k_mem)) (News.get N9 (by k_mem)) (News.get N9 (by k_mem)) (born_W N9 inN off5) (fun a o z => of_hideAll _ (lkW F9 N9 hlk inN off5 hgW a o z)) ats5 (by unfold At; exact ⟨rfl, wd.nil.mono fun _ _ z => .inl z⟩) rfl rfl dk5 tab5
      · rename News _ _ _ _ => N9
        rename Fr _ _ _ _ => F9
        have inN := tail8 N9
        refine finL _ _ nw oK5 oR5 oN5 (.sym 64) _ _ _ _ (.inr ⟨_, rfl⟩) rfl rfl F9 (News.get N9 (a := D0) (by k_mem)) (News.get N9 (by k_mem)) (News.get N9 (by k_mem)) (News.get N9 (by k_mem)) (born_W N9 inN off5) (fun a o z => of_hideAll _ (lkW F9 N9 hlk inN off5 hgW a o z)) ats5 (by unfold At; exact ⟨rfl, wd.nil.mono fun _ _ z => .inl z⟩) rfl rfl dk5 tab5
theorem made_all {w : World} : ∀ n, MadeS w n
  | 0 => fun a b c d e f g h i j k => made_step (fun m q => by cases q) a b c d e f g h i j k
  | n + 1 => fun a b c d e f g h i j k => made_step (fun m q => by cases q; exact made_all n) a b c d e f g h i j k
end T15X

open PySem PySem.W PySem.Calls PyProof.Rows in
theorem rstT16 {M : Model} {A : Around} {env : Env} {Q : Flow → Shared → Prop} {E : Value → Shared → Prop} {s : Shared} (h : Q Flow.next s) : wpAny M A (execs [] env) Q E s := by
  w_top off
  first | (walk1; exact h) | exact wpAny_execs_nil h
section T16X
open PySem PySem.W PySem.Calls PyProof.Rows
set_option Elab.async false
set_option maxRecDepth 100000
open PyProof.Rows.LCg
def NearS (w : World) (n : Nat) : Prop :=
  ∀ {outer : List Env} {s : Shared} {dp un : Nat} {gd : Option (List Code)} {lk : Addr → Obj → Prop} {K R Nm tb tw : Addr} {oK oR oN : Obj} {d : D} {v : Value} {Q E : Value → Shared → Prop}, d.depth < n →
    Gd w [K, R, Nm] outer s.heap → (∀ a o, lk a o → (hideAll s.heap [K, R, Nm]).get? a = some o) → Wd w lk K R Nm tb tw → s.heap.get? K = some oK → s.heap.get? R = some oR → s.heap.get? Nm = some oN → Deck oK → Tab w lk oR oN → At w lk d v →
    dp + 60 + d.depth < recursionLimit → un + 6000 + 100 * d.depth < cLine → Gives3 w lk K R Nm s (d.size + 7) (d.depth + 3) (fun x m => x = v ∨ TokR (s.toks + 1) x m) Q →
    wpAny (model PySem.Challenge.rw_np0028_01.row.prog w) (Ar dp un gd outer) (call (.ref 356) [.ref K, .ref tb, .ref tw, v]) Q E s
theorem near_call {w : World} {n : Nat} (H : NearS w n) {outer : List Env} {s : Shared} {dp un : Nat} {gd : Option (List Code)} {lk : Addr → Obj → Prop} {K R Nm tb tw : Addr} {oK oR oN : Obj} {d : D} {v : Value} {Q E : Value → Shared → Prop} (lt : d.depth < n)
    (G : Gd w [K, R, Nm] outer s.heap) (hlk : ∀ a o, lk a o → (hideAll s.heap [K, R, Nm]).get? a = some o) (wd : Wd w lk K R Nm tb tw) (hK : s.heap.get? K = some oK) (hR : s.heap.get? R = some oR) (hNm : s.heap.get? Nm = some oN) (dk : Deck oK) (tab : Tab w lk oR oN) (hd : At w lk d v)
    (hdp : dp + 60 + d.depth < recursionLimit) (hun : un + 6000 + 100 * d.depth < cLine) (ret : Gives3 w lk K R Nm s (d.size + 7) (d.depth + 3) (fun x m => x = v ∨ TokR (s.toks + 1) x m) Q) :
    wpAny (model PySem.Challenge.rw_np0028_01.row.prog w) (Ar dp un gd outer) (call (.ref 356) [.ref K, .ref tb, .ref tw, v]) Q E s := H lt G hlk wd hK hR hNm dk tab hd hdp hun ret
theorem near_off {h h' : Heap} {W : List Addr} {nw : List (Addr × Obj)} (hB : Born h h' nw) (al : ∀ a ∈ W, ∃ o, h.get? a = some o) : ∀ p ∈ nw, p.1 ∉ W := fun p hp q => by
  obtain ⟨o, e⟩ := al _ q
  rw [(hB p hp).2] at e; cases e
theorem after3 {h0 h h' : Heap} {W : List Addr} {L : Addr} {m : Str → Option Value} {ws nw : List (Addr × Obj)} (F : Fr (hideAll h0 W) L h m) (fr : Frame W h h') (hL : L ∉ W) (hB : Born h h' nw) (hw : ∀ p ∈ ws, h'.get? p.1 = some p.2 ∧ p.1 ≠ L ∧ (hideAll h0 W).get? p.1 = none) :
    Fr (hideAll h0 W) L h' m ∧ News (hideAll h0 W) L h' (ws ++ nw) := by
  refine ⟨frW F fr hL, fun p hp => ?_⟩
  rcases List.mem_append.mp hp with hp | hp
  · exact hw p hp
  · refine ⟨(hB p hp).1, ?_, ?_⟩
    · intro q
      obtain ⟨oL, es, ep, hL', r⟩ := F.ns
      have := (hB p hp).2
      rw [q, hL'] at this; cases this
    · cases q : (hideAll h0 W).get? p.1 with
      | none => rfl
      | some o => have := F.keep _ _ q; rw [(hB p hp).2] at this; cases this
theorem Ats.pick {w : World} {lk : Addr → Obj → Prop} : ∀ {l : DL} {vs : List Value} {j : Nat}, Ats w lk l vs → j < vs.length →
    ∃ x e, vs[j]? = some x ∧ At w lk e x ∧ e.depth ≤ l.depth ∧ e.size ≤ l.size ∧ (∀ (lk' : Addr → Obj → Prop) e' x', (∀ a o, lk a o → lk' a o) → At w lk' e' x' → ∃ l', Ats w lk' l' (vs.set j x') ∧ l'.len = l.len ∧ l'.size + e.size = l.size + e'.size ∧ l'.depth ≤ max l.depth e'.depth)
  | .nil, vs, j, h, lt => by simp only [Ats] at h; subst h; cases lt
  | .cons d l, vs, 0, h, lt => by
    simp only [Ats] at h
    obtain ⟨v, r, rfl, a, b⟩ := h
    refine ⟨v, d, rfl, a, by simp only [DL.depth]; exact Nat.le_max_left _ _, by simp only [DL.size]; exact Nat.le_add_right _ _, fun lk' e' x' hl a' => ⟨.cons e' l, ?_, rfl, by simp only [DL.size]; omega, by simp only [DL.depth]; exact Nat.max_le.mpr ⟨Nat.le_max_right _ _, Nat.le_trans (Nat.le_max_right _ _) (Nat.le_max_left _ _)⟩⟩⟩
    simp only [Ats, List.set]
    exact ⟨x', r, rfl, a', b.mono hl⟩
  | .cons d l, vs, j + 1, h, lt => by
    simp only [Ats] at h
    obtain ⟨v, r, rfl, a, b⟩ := h
    obtain ⟨x, e, q1, q2, q3, q4, q5⟩ := b.pick (j := j) (by simpa using lt)
    refine ⟨x, e, by simpa using q1, q2, by simp only [DL.depth]; exact Nat.le_trans q3 (Nat.le_max_right _ _), by simp only [DL.size]; exact Nat.le_trans q4 (Nat.le_add_left _ _), fun lk' e' x' hl a' => ?_⟩
    obtain ⟨l', z1, z2, z3, z4⟩ := q5 lk' e' x' hl a'
    refine ⟨.cons d l', ?_, by simp only [DL.len]; rw [z2], by simp only [DL.size]; omega, by simp only [DL.depth]; exact Nat.max_le.mpr ⟨Nat.le_trans (Nat.le_max_left _ _) (Nat.le_max_left _ _), Nat.le_trans z4 (Nat.max_le.mpr ⟨Nat.le_trans (Nat.le_max_right _ _) (Nat.le_max_left _ _), Nat.le_max_right _ _⟩)⟩⟩
    simp only [Ats, List.set]
    exact ⟨v, _, rfl, a.mono hl, z1⟩
theorem set_at {prog : Program} {w : World} {A : Around} {E : Value → Shared → Prop} {s : Shared} {h₀ : Heap} {L D : Addr} {m : Str → Option Value} {post : List (Addr × Obj)} {vs : List Value} {n j : Nat} {v : Value} {t : Tok} {Q : Unit → Shared → Prop}
    (F : Fr h₀ L s.heap m) (N : News h₀ L s.heap ((D, PySem.W.listOf vs.toArray n) :: post)) (b : ∀ p ∈ post, p.1 ≠ D) (lt : j < vs.length) (hs : vs.length ≤ 3)
    (h : ∀ h', Fr h₀ L h' m → News h₀ L h' ((D, PySem.W.listOf (vs.set j v).toArray n) :: post) → Q () { s with heap := h' }) : wpAny (model prog w) A (setItem (.ref D) (.int (j : Nat) t) v) Q E s := by
  have z := N (D, PySem.W.listOf vs.toArray n) List.mem_cons_self
  refine ki_setAt z.1 (by omega) (by omega) (by rw [List.size_toArray]; omega) (h _ (F.change (Heap.SameBut.update ..) z.2.1 z.2.2) (ki_turn (pre := []) _ N (fun _ h => nomatch h) b ?_ ?_))
  · apply Array.toList_inj.mp
    simp
  · simp
theorem vec_fin {w : World} {outer : List Env} {s : Shared} {dp un : Nat} {gd : Option (List Code)} {env : Env} {base h9 : Heap} {tk9 : Nat} {L : Addr} {m mg mb : Str → Option Value} {p : Program} {loose : List Str} {mean : ExcName → Option Value} {lk : Addr → Obj → Prop} {K R Nm D1 : Addr} {vs9 : List Value} {c9 : Nat} {l9 : DL} {nw : List (Addr × Obj)} {oK9 oR9 oN9 : Obj} {sz dd : Nat} {Q E : Value → Shared → Prop} (b : Bool)
    (B : Below (Ar dp un gd outer) base outer (hideAll s.heap [K, R, Nm])) (F : Fr (hideAll s.heap [K, R, Nm]) L h9 m) (X : (hd.heap_1 w.params).In (hideAll s.heap [K, R, Nm])) (N : News (hideAll s.heap [K, R, Nm]) L h9 ((D1, PySem.W.listOf vs9.toArray c9) :: (K, oK9) :: (R, oR9) :: (Nm, oN9) :: nw)) (T : Top p loose mean mg mb (hideAll s.heap [K, R, Nm])) (hf : env.frame = some L) (hke : env.scope.kind = .function) (hdp : dp + 6 < recursionLimit) (hun : un + 200 < cLine)
    (o1 : @LT.lt Nat _ K D1) (o2 : @LT.lt Nat _ R D1) (o3 : @LT.lt Nat _ Nm D1) (off : ∀ p ∈ nw, p.1 ∉ [K, R, Nm]) (ats : Ats w (LK lk nw) l9 vs9) (hl : l9.len ≤ 3) (hs : l9.size + 1 ≤ sz) (hd : l9.depth + 1 ≤ dd) (dk : Deck oK9) (tab : Tab w (LK lk nw) oR9 oN9) {ok : Value → Nat → Prop} (hok : ∀ x m, ok (.ref x) m) (ret : Gives3 w lk K R Nm s sz dd ok Q) :
    wpAny (model PySem.Challenge.rw_np0028_01.row.prog w) ((Ar dp un gd outer).deeper env) (call (.ref (bif b then 149 else 128)) [.ref D1]) Q E { s with heap := h9, toks := tk9 } := by
  cases b
  · refine make_128 B F X N T hf hke rfl hdp hun ?_
    intro x dx t9 h9 tk9 kF kN l1 l2
    have b1 := l1 (D1, _) (by k_mem)
    dsimp only at b1
    refine ret (.vec x false l9) (.ref x) ((x, instObj 128 dx) :: (dx, dictOf [ent w "things" t9 (.ref D1)] 1) :: (D1, PySem.W.listOf vs9.toArray c9) :: nw) oK9 oR9 oN9 h9 tk9 (born_W kN ?_ ?_) ?_ (by simp only [D.size]; omega) (by simp only [D.depth]; omega) dk (tab.mono ?_) (kN (K, oK9) (by k_mem)).1 (kN (R, oR9) (by k_mem)).1 (kN (Nm, oN9) (by k_mem)).1 (Frame.of_Fr kF) (hok _ _)
    · intro p hp
      iterate 3 (rcases List.mem_cons.mp hp with rfl | hp; k_mem)
      iterate 6 refine List.mem_cons_of_mem _ ?_
      exact hp
    · intro p hp
      iterate 3 (rcases List.mem_cons.mp hp with rfl | hp; simp only [List.mem_cons, List.not_mem_nil, or_false]; (rintro (h | h | h) <;> exact absurd h (by k_ne)))
      exact off p hp
    · simp only [At]
      exact ⟨trivial, dx, D1, _, vs9, t9, .inr List.mem_cons_self, .inr (List.mem_cons_of_mem _ List.mem_cons_self), .inr (List.mem_cons_of_mem _ (List.mem_cons_of_mem _ List.mem_cons_self)), ats.mono fun a o z => z.imp id fun z => List.mem_cons_of_mem _ (List.mem_cons_of_mem _ (List.mem_cons_of_mem _ z)), hl⟩
    · exact fun a o z => z.imp id fun z => List.mem_cons_of_mem _ (List.mem_cons_of_mem _ (List.mem_cons_of_mem _ z))
  · refine make_149 B F X N T hf hke rfl hdp hun ?_
    intro x dx t9 h9 tk9 kF kN l1 l2
    have b1 := l1 (D1, _) (by k_mem)
    dsimp only at b1
    refine ret (.vec x true l9) (.ref x) ((x, instObj 149 dx) :: (dx, dictOf [ent w "things" t9 (.ref D1)] 1) :: (D1, PySem.W.listOf vs9.toArray c9) :: nw) oK9 oR9 oN9 h9 tk9 (born_W kN ?_ ?_) ?_ (by simp only [D.size]; omega) (by simp only [D.depth]; omega) dk (tab.mono ?_) (kN (K, oK9) (by k_mem)).1 (kN (R, oR9) (by k_mem)).1 (kN (Nm, oN9) (by k_mem)).1 (Frame.of_Fr kF) (hok _ _)
    · intro p hp
      iterate 3 (rcases List.mem_cons.mp hp with rfl | hp; k_mem)
      iterate 6 refine List.mem_cons_of_mem _ ?_
      exact hp
    · intro p hp
      iterate 3 (rcases List.mem_cons.mp hp with rfl | hp; simp only [List.mem_cons, List.not_mem_nil, or_false]; (rintro (h | h | h) <;> exact absurd h (by k_ne)))
      exact off p hp
    · simp only [At]
      exact ⟨trivial, dx, D1, _, vs9, t9, .inr List.mem_cons_self, .inr (List.mem_cons_of_mem _ List.mem_cons_self), .inr (List.mem_cons_of_mem _ (List.mem_cons_of_mem _ List.mem_cons_self)), ats.mono fun a o z => z.imp id fun z => List.mem_cons_of_mem _ (List.mem_cons_of_mem _ (List.mem_cons_of_mem _ z)), hl⟩
    · exact fun a o z => z.imp id fun z => List.mem_cons_of_mem _ (List.mem_cons_of_mem _ (List.mem_cons_of_mem _ z))
set_option maxHeartbeats 8000000 in
theorem near_step {w : World} {outer : List Env} {s : Shared} {dp un : Nat} {gd : Option (List Code)} {lk : Addr → Obj → Prop} {K R Nm tb tw : Addr} {oK oR oN : Obj} {d : D} {v : Value} {Q E : Value → Shared → Prop} (IH : NearS w d.depth)
    (G : Gd w [K, R, Nm] outer s.heap) (hlk : ∀ a o, lk a o → (hideAll s.heap [K, R, Nm]).get? a = some o) (wd : Wd w lk K R Nm tb tw) (hK : s.heap.get? K = some oK) (hR : s.heap.get? R = some oR) (hNm : s.heap.get? Nm = some oN) (dk : Deck oK) (tab : Tab w lk oR oN) (hd : At w lk d v)
    (hdp : dp + 60 + d.depth < recursionLimit) (hun : un + 6000 + 100 * d.depth < cLine) (ret : Gives3 w lk K R Nm s (d.size + 7) (d.depth + 3) (fun x m => x = v ∨ TokR (s.toks + 1) x m) Q) :
    wpAny (model PySem.Challenge.rw_np0028_01.row.prog w) (Ar dp un gd outer) (call (.ref 356) [.ref K, .ref tb, .ref tw, v]) Q E s := by
  have hun2 := roomZ hun
  have hdp2 := roomZ hdp
  have KR := wd.KR
  have KN := wd.KN
  have RN := wd.RN
  have lo := wd.lo
  have LK1 : @LT.lt Nat _ K s.heap.objs.size := Heap.lt_size hK
  have LR1 : @LT.lt Nat _ R s.heap.objs.size := Heap.lt_size hR
  have LN1 : @LT.lt Nat _ Nm s.heap.objs.size := Heap.lt_size hNm
  have q1 := hd.handed
  have hgW : ∀ a ∈ [K, R, Nm], (hideAll s.heap [K, R, Nm]).get? a = none := fun a ha => hideAll_none _ ha
  have hgL : ∀ a ∈ [K, R, Nm], a ≠ s.heap.objs.size ∧ (hideAll s.heap [K, R, Nm]).get? a = none := by
    intro a ha
    refine ⟨?_, hgW a ha⟩
    simp only [List.mem_cons, List.not_mem_nil, or_false] at ha
    rcases ha with rfl | rfl | rfl
    · exact Nat.ne_of_lt LK1
    · exact Nat.ne_of_lt LR1
    · exact Nat.ne_of_lt LN1
  refine wpAny_call ?_
  refine enterT (binds := [(Str.ofString "deck", .ref K), (Str.ofString "table", .ref tb), (Str.ofString "twin", .ref tw), (Str.ofString "datum", v)]) G (by omega) (by k_is) (by k_is) (BindsTo.of_eq rfl) (locs rfl) rfl rfl rfl (by decide) ?_
  intro base p loose mean mg mb h₁ tk₁ le1 F hN B T
  have X := G.X
  have N := hN [(K, oK), (R, oR), (Nm, oN)] (by intro q hq; simp only [List.mem_cons, List.not_mem_nil, or_false] at hq ⊢; rcases hq with rfl | rfl | rfl; exact ⟨.inl rfl, hK⟩; exact ⟨.inr (.inl rfl), hR⟩; exact ⟨.inr (.inr rfl), hNm⟩)
  have hB := PLift.up B
  clear hN B
  try k_fold
  simp only [List.length_cons, List.length_nil] at le1
  repeat' (first | k_unfold | ((fail_if_success (with_reducible show wpAny _ _ (call (Value.builtin "isinstance") _) _ _ _)); (fail_if_success (with_reducible show wpAny _ _ (call (Value.ref 349) _) _ _ _)); (fail_if_success (with_reducible show wpAny _ _ (call (Value.ref 356) _) _ _ _)); (fail_if_success (with_reducible show wpAny _ _ (call (Value.ref 128) _) _ _ _)); (fail_if_success (with_reducible show wpAny _ _ (call (Value.ref 149) _) _ _ _)); (fail_if_success (with_reducible show wpAny _ _ (call (Value.ref 85) _) _ _ _)); (fail_if_success (with_reducible show wpAny _ _ (call (Value.ref 107) _) _ _ _)); (fail_if_success (with_reducible show wpAny _ _ (compareOp CmpOp.NotEq (Value.ref _) (Value.ref _)) _ _ _)); (fail_if_success (with_reducible show wpAny _ _ (subscriptTail _ _ (Value.ref _) (Value.int _ _)) _ _ _)); (fail_if_success (with_reducible show wpAny _ _ (setItem _ _ _) _ _ _)); walk1) | ((fail_if_success (with_reducible show wpAny _ _ (call (Value.builtin "isinstance") _) _ _ _)); (fail_if_success (with_reducible show wpAny _ _ (call (Value.ref 349) _) _ _ _)); (fail_if_success (with_reducible show wpAny _ _ (call (Value.ref 356) _) _ _ _)); (fail_if_success (with_reducible show wpAny _ _ (call (Value.ref 128) _) _ _ _)); (fail_if_success (with_reducible show wpAny _ _ (call (Value.ref 149) _) _ _ _)); (fail_if_success (with_reducible show wpAny _ _ (call (Value.ref 85) _) _ _ _)); (fail_if_success (with_reducible show wpAny _ _ (call (Value.ref 107) _) _ _ _)); (fail_if_success (with_reducible show wpAny _ _ (compareOp CmpOp.NotEq (Value.ref _) (Value.ref _)) _ _ _)); (fail_if_success (with_reducible show wpAny _ _ (subscriptTail _ _ (Value.ref _) (Value.int _ _)) _ _ _)); (fail_if_success (with_reducible show wpAny _ _ (setItem _ _ _) _ _ _)); dsimp only; walk1))
  · rename Obj => ok2
    rename News _ _ _ _ => N2
    rename Fr _ _ _ _ => F2
    rename Deck _ => dk2
    refine made_call (n := 1) (made_all 1) (G.push F2 hgL) (fun a o e => lkW (tl := []) F2 N2 hlk (fun _ h => nomatch h) (fun _ h => nomatch h) hgW a o (.inl e)) wd (News.get N2 (by k_mem)) (News.get N2 (by k_mem)) (News.get N2 (by k_mem)) dk2 tab (by show dp + 1 + 30 + 1 < recursionLimit; units_room) (by show un + 3 + 3000 + 100 * 1 < cLine; units_room) ?_
    intro d' v' nw oK' oR' oN' h' tk' hB' at' sz' dp' dk' tab' eK eR eN fr' tok'
    refine ret d' v' nw oK' oR' oN' h' tk' (born_up (Frame.of_Fr F2) (fun a ha => ?_) hB') at' (by have : SZ 1 = 7 := rfl; omega) (by omega) dk' tab' eK eR eN ((Frame.of_Fr F2).trans fr') (.inr (tok'.mono (by (try dsimp only); omega)))
    simp only [List.mem_cons, List.not_mem_nil, or_false] at ha
    rcases ha with rfl | rfl | rfl
    · exact ⟨_, News.get N2 (by k_mem)⟩
    · exact ⟨_, News.get N2 (by k_mem)⟩
    · exact ⟨_, News.get N2 (by k_mem)⟩
  cases d with
  | int i =>
    have hd2 := hd
    simp only [At] at hd2
    obtain ⟨t, rfl⟩ := hd2
    repeat' (first | k_unfold | ((fail_if_success (with_reducible show wpAny _ _ (call (Value.ref 349) _) _ _ _)); (fail_if_success (with_reducible show wpAny _ _ (call (Value.ref 356) _) _ _ _)); (fail_if_success (with_reducible show wpAny _ _ (call (Value.ref 128) _) _ _ _)); (fail_if_success (with_reducible show wpAny _ _ (call (Value.ref 149) _) _ _ _)); (fail_if_success (with_reducible show wpAny _ _ (call (Value.ref 85) _) _ _ _)); (fail_if_success (with_reducible show wpAny _ _ (call (Value.ref 107) _) _ _ _)); (fail_if_success (with_reducible show wpAny _ _ (compareOp CmpOp.NotEq (Value.ref _) (Value.ref _)) _ _ _)); (fail_if_success (with_reducible show wpAny _ _ (subscriptTail _ _ (Value.ref _) (Value.int _ _)) _ _ _)); (fail_if_success (with_reducible show wpAny _ _ (setItem _ _ _) _ _ _)); walk1) | ((fail_if_success (with_reducible show wpAny _ _ (call (Value.ref 349) _) _ _ _)); (fail_if_success (with_reducible show wpAny _ _ (call (Value.ref 356) _) _ _ _)); (fail_if_success (with_reducible show wpAny _ _ (call (Value.ref 128) _) _ _ _)); (fail_if_success (with_reducible show wpAny _ _ (call (Value.ref 149) _) _ _ _)); (fail_if_success (with_reducible show wpAny _ _ (call (Value.ref 85) _) _ _ _)); (fail_if_success (with_reducible show wpAny _ _ (call (Value.ref 107) _) _ _ _)); (fail_if_success (with_reducible show wpAny _ _ (compareOp CmpOp.NotEq (Value.ref _) (Value.ref _)) _ _ _)); (fail_if_success (with_reducible show wpAny _ _ (subscriptTail _ _ (Value.ref _) (Value.int _ _)) _ _ _)); (fail_if_success (with_reducible show wpAny _ _ (setItem _ _ _) _ _ _)); dsimp only; walk1))
    · exact ret (.int i) _ [] _ oR oN _ _ (fun _ h => nomatch h) (hd.mono fun _ _ z => .inl z) (by omega) (by omega) (by assumption) (tab.mono fun _ _ z => .inl z) (News.get (by k_asm) (by k_mem)) (News.get (by k_asm) (by k_mem)) (News.get (by k_asm) (by k_mem)) (Frame.of_Fr (by k_asm)) (.inl rfl)
  | sym a =>
    have hd2 := hd
    simp only [At] at hd2
    obtain ⟨rfl, da, es, n, h1, h2⟩ := hd2
    replace h1 := hlk _ _ h1; replace h2 := hlk _ _ h2
    repeat' (first | k_unfold | ((fail_if_success (with_reducible show wpAny _ _ (call (Value.ref 349) _) _ _ _)); (fail_if_success (with_reducible show wpAny _ _ (call (Value.ref 356) _) _ _ _)); (fail_if_success (with_reducible show wpAny _ _ (call (Value.ref 128) _) _ _ _)); (fail_if_success (with_reducible show wpAny _ _ (call (Value.ref 149) _) _ _ _)); (fail_if_success (with_reducible show wpAny _ _ (call (Value.ref 85) _) _ _ _)); (fail_if_success (with_reducible show wpAny _ _ (call (Value.ref 107) _) _ _ _)); (fail_if_success (with_reducible show wpAny _ _ (compareOp CmpOp.NotEq (Value.ref _) (Value.ref _)) _ _ _)); (fail_if_success (with_reducible show wpAny _ _ (subscriptTail _ _ (Value.ref _) (Value.int _ _)) _ _ _)); (fail_if_success (with_reducible show wpAny _ _ (setItem _ _ _) _ _ _)); walk1) | ((fail_if_success (with_reducible show wpAny _ _ (call (Value.ref 349) _) _ _ _)); (fail_if_success (with_reducible show wpAny _ _ (call (Value.ref 356) _) _ _ _)); (fail_if_success (with_reducible show wpAny _ _ (call (Value.ref 128) _) _ _ _)); (fail_if_success (with_reducible show wpAny _ _ (call (Value.ref 149) _) _ _ _)); (fail_if_success (with_reducible show wpAny _ _ (call (Value.ref 85) _) _ _ _)); (fail_if_success (with_reducible show wpAny _ _ (call (Value.ref 107) _) _ _ _)); (fail_if_success (with_reducible show wpAny _ _ (compareOp CmpOp.NotEq (Value.ref _) (Value.ref _)) _ _ _)); (fail_if_success (with_reducible show wpAny _ _ (subscriptTail _ _ (Value.ref _) (Value.int _ _)) _ _ _)); (fail_if_success (with_reducible show wpAny _ _ (setItem _ _ _) _ _ _)); dsimp only; walk1))
    · exact ret (.sym a) _ [] _ oR oN _ _ (fun _ h => nomatch h) (hd.mono fun _ _ z => .inl z) (by omega) (by omega) (by assumption) (tab.mono fun _ _ z => .inl z) (News.get (by k_asm) (by k_mem)) (News.get (by k_asm) (by k_mem)) (News.get (by k_asm) (by k_mem)) (Frame.of_Fr (by k_asm)) (.inl rfl)
  | text a cs sp =>
    have hd2 := hd
    simp only [At] at hd2
    obtain ⟨rfl, da, c, n, vs, t1, t2, sv, h1, h2, h3, iv, cl, hsp⟩ := hd2
    have qs : handedIn sv = true := by cases sp <;> simp only [SpAt] at hsp; subst hsp; rfl; obtain ⟨y, t, n, n', t1, t2, t3, rfl, _⟩ := hsp; rfl
    replace h1 := hlk _ _ h1; replace h2 := hlk _ _ h2; replace h3 := hlk _ _ h3
    repeat' (first | k_unfold | ((fail_if_success (with_reducible show wpAny _ _ (call (Value.ref 349) _) _ _ _)); (fail_if_success (with_reducible show wpAny _ _ (call (Value.ref 356) _) _ _ _)); (fail_if_success (with_reducible show wpAny _ _ (call (Value.ref 128) _) _ _ _)); (fail_if_success (with_reducible show wpAny _ _ (call (Value.ref 149) _) _ _ _)); (fail_if_success (with_reducible show wpAny _ _ (call (Value.ref 85) _) _ _ _)); (fail_if_success (with_reducible show wpAny _ _ (call (Value.ref 107) _) _ _ _)); (fail_if_success (with_reducible show wpAny _ _ (compareOp CmpOp.NotEq (Value.ref _) (Value.ref _)) _ _ _)); (fail_if_success (with_reducible show wpAny _ _ (subscriptTail _ _ (Value.ref _) (Value.int _ _)) _ _ _)); (fail_if_success (with_reducible show wpAny _ _ (setItem _ _ _) _ _ _)); walk1) | ((fail_if_success (with_reducible show wpAny _ _ (call (Value.ref 349) _) _ _ _)); (fail_if_success (with_reducible show wpAny _ _ (call (Value.ref 356) _) _ _ _)); (fail_if_success (with_reducible show wpAny _ _ (call (Value.ref 128) _) _ _ _)); (fail_if_success (with_reducible show wpAny _ _ (call (Value.ref 149) _) _ _ _)); (fail_if_success (with_reducible show wpAny _ _ (call (Value.ref 85) _) _ _ _)); (fail_if_success (with_reducible show wpAny _ _ (call (Value.ref 107) _) _ _ _)); (fail_if_success (with_reducible show wpAny _ _ (compareOp CmpOp.NotEq (Value.ref _) (Value.ref _)) _ _ _)); (fail_if_success (with_reducible show wpAny _ _ (subscriptTail _ _ (Value.ref _) (Value.int _ _)) _ _ _)); (fail_if_success (with_reducible show wpAny _ _ (setItem _ _ _) _ _ _)); dsimp only; walk1))
    · rename News _ _ _ _ => N9
      rename Fr _ _ _ _ => F9
      refine list_copyK F9 N9 ⟨_, Fr.keep F9 _ _ h3, rfl, n, rfl⟩ ?_ (len_fits (IntsAre.length iv) (by omega))
      clear F9 N9
      intro D1 c1 h1' F9 N9 l1
      have l1K : @LT.lt Nat _ K D1 := l1 (K, _) (by k_mem)
      have l1R : @LT.lt Nat _ R D1 := l1 (R, _) (by k_mem)
      have l1N : @LT.lt Nat _ Nm D1 := l1 (Nm, _) (by k_mem)
      clear l1
      repeat' (first | k_unfold | ((fail_if_success (with_reducible show wpAny _ _ (call (Value.ref 349) _) _ _ _)); (fail_if_success (with_reducible show wpAny _ _ (call (Value.ref 356) _) _ _ _)); (fail_if_success (with_reducible show wpAny _ _ (call (Value.ref 128) _) _ _ _)); (fail_if_success (with_reducible show wpAny _ _ (call (Value.ref 149) _) _ _ _)); (fail_if_success (with_reducible show wpAny _ _ (call (Value.ref 85) _) _ _ _)); (fail_if_success (with_reducible show wpAny _ _ (call (Value.ref 107) _) _ _ _)); (fail_if_success (with_reducible show wpAny _ _ (compareOp CmpOp.NotEq (Value.ref _) (Value.ref _)) _ _ _)); (fail_if_success (with_reducible show wpAny _ _ (subscriptTail _ _ (Value.ref _) (Value.int _ _)) _ _ _)); (fail_if_success (with_reducible show wpAny _ _ (setItem _ _ _) _ _ _)); walk1) | ((fail_if_success (with_reducible show wpAny _ _ (call (Value.ref 349) _) _ _ _)); (fail_if_success (with_reducible show wpAny _ _ (call (Value.ref 356) _) _ _ _)); (fail_if_success (with_reducible show wpAny _ _ (call (Value.ref 128) _) _ _ _)); (fail_if_success (with_reducible show wpAny _ _ (call (Value.ref 149) _) _ _ _)); (fail_if_success (with_reducible show wpAny _ _ (call (Value.ref 85) _) _ _ _)); (fail_if_success (with_reducible show wpAny _ _ (call (Value.ref 107) _) _ _ _)); (fail_if_success (with_reducible show wpAny _ _ (compareOp CmpOp.NotEq (Value.ref _) (Value.ref _)) _ _ _)); (fail_if_success (with_reducible show wpAny _ _ (subscriptTail _ _ (Value.ref _) (Value.int _ _)) _ _ _)); (fail_if_success (with_reducible show wpAny _ _ (setItem _ _ _) _ _ _)); dsimp only; walk1))
      · rename Deck _ => dk9
        refine make_107 hB.down F9 X N9 T rfl rfl rfl qs (by omega) (by omega) ?_
        intro x dx t8 t9 h9 tk9 kF kN l1 l2
        have b1 := l1 (D1, _) (by k_mem)
        have b2 := l1 (K, _) (by k_mem)
        have b3 := l1 (R, _) (by k_mem)
        have b4 := l1 (Nm, _) (by k_mem)
        dsimp only at b1 b2 b3 b4
        refine ret (.text x cs sp) (.ref x) ((x, instObj 107 dx) :: (dx, dictOf [ent w "codes" t8 (.ref D1), ent w "spans" t9 sv] 2) :: (D1, PySem.W.listOf vs.toArray c1) :: []) _ oR oN h9 tk9 (born_W kN ?_ ?_) ?_ (by simp only [D.size]; omega) (by simp only [D.depth]; omega) dk9 (tab.mono fun _ _ z => .inl z) (News.get kN (by k_mem)) (News.get kN (by k_mem)) (News.get kN (by k_mem)) (Frame.of_Fr kF) (.inr TokR.ref)
        · intro p hp
          simp only [List.mem_cons, List.not_mem_nil, or_false] at hp
          rcases hp with rfl | rfl | rfl <;> k_mem
        · intro p hp
          simp only [List.mem_cons, List.not_mem_nil, or_false] at hp ⊢
          rcases hp with rfl | rfl | rfl <;> (rintro (h | h | h) <;> exact absurd h (by k_ne))
        · simp only [At]
          exact ⟨trivial, dx, D1, c1, vs, t8, t9, _, .inr List.mem_cons_self, .inr (List.mem_cons_of_mem _ List.mem_cons_self), .inr (List.mem_cons_of_mem _ (List.mem_cons_of_mem _ List.mem_cons_self)), iv, cl, hsp.mono fun _ _ z => .inl z⟩
      · rename Deck _ => dk9
        refine make_107 hB.down F9 X N9 T rfl rfl rfl rfl (by omega) (by omega) ?_
        intro x dx t8 t9 h9 tk9 kF kN l1 l2
        have b1 := l1 (D1, _) (by k_mem)
        have b2 := l1 (K, _) (by k_mem)
        have b3 := l1 (R, _) (by k_mem)
        have b4 := l1 (Nm, _) (by k_mem)
        dsimp only at b1 b2 b3 b4
        refine ret (.text x cs none) (.ref x) ((x, instObj 107 dx) :: (dx, dictOf [ent w "codes" t8 (.ref D1), ent w "spans" t9 .none] 2) :: (D1, PySem.W.listOf vs.toArray c1) :: []) _ oR oN h9 tk9 (born_W kN ?_ ?_) ?_ (by simp only [D.size]; omega) (by simp only [D.depth]; omega) dk9 (tab.mono fun _ _ z => .inl z) (News.get kN (by k_mem)) (News.get kN (by k_mem)) (News.get kN (by k_mem)) (Frame.of_Fr kF) (.inr TokR.ref)
        · intro p hp
          simp only [List.mem_cons, List.not_mem_nil, or_false] at hp
          rcases hp with rfl | rfl | rfl <;> k_mem
        · intro p hp
          simp only [List.mem_cons, List.not_mem_nil, or_false] at hp ⊢
          rcases hp with rfl | rfl | rfl <;> (rintro (h | h | h) <;> exact absurd h (by k_ne))
        · simp only [At]
          exact ⟨trivial, dx, D1, c1, vs, t8, t9, _, .inr List.mem_cons_self, .inr (List.mem_cons_of_mem _ List.mem_cons_self), .inr (List.mem_cons_of_mem _ (List.mem_cons_of_mem _ List.mem_cons_self)), iv, cl, rfl⟩
  | cons a x y =>
    have hd2 := hd
    simp only [At] at hd2
    obtain ⟨rfl, da, v1, v2, t1, t2, h1, h2, k1, k2⟩ := hd2
    replace h1 := hlk _ _ h1; replace h2 := hlk _ _ h2
    have q2 := k1.handed; have q3 := k2.handed
    repeat' (first | k_unfold | ((fail_if_success (with_reducible show wpAny _ _ (call (Value.ref 349) _) _ _ _)); (fail_if_success (with_reducible show wpAny _ _ (call (Value.ref 356) _) _ _ _)); (fail_if_success (with_reducible show wpAny _ _ (call (Value.ref 128) _) _ _ _)); (fail_if_success (with_reducible show wpAny _ _ (call (Value.ref 149) _) _ _ _)); (fail_if_success (with_reducible show wpAny _ _ (call (Value.ref 85) _) _ _ _)); (fail_if_success (with_reducible show wpAny _ _ (call (Value.ref 107) _) _ _ _)); (fail_if_success (with_reducible show wpAny _ _ (compareOp CmpOp.NotEq (Value.ref _) (Value.ref _)) _ _ _)); (fail_if_success (with_reducible show wpAny _ _ (subscriptTail _ _ (Value.ref _) (Value.int _ _)) _ _ _)); (fail_if_success (with_reducible show wpAny _ _ (setItem _ _ _) _ _ _)); walk1) | ((fail_if_success (with_reducible show wpAny _ _ (call (Value.ref 349) _) _ _ _)); (fail_if_success (with_reducible show wpAny _ _ (call (Value.ref 356) _) _ _ _)); (fail_if_success (with_reducible show wpAny _ _ (call (Value.ref 128) _) _ _ _)); (fail_if_success (with_reducible show wpAny _ _ (call (Value.ref 149) _) _ _ _)); (fail_if_success (with_reducible show wpAny _ _ (call (Value.ref 85) _) _ _ _)); (fail_if_success (with_reducible show wpAny _ _ (call (Value.ref 107) _) _ _ _)); (fail_if_success (with_reducible show wpAny _ _ (compareOp CmpOp.NotEq (Value.ref _) (Value.ref _)) _ _ _)); (fail_if_success (with_reducible show wpAny _ _ (subscriptTail _ _ (Value.ref _) (Value.int _ _)) _ _ _)); (fail_if_success (with_reducible show wpAny _ _ (setItem _ _ _) _ _ _)); dsimp only; walk1))
    · rename News _ _ _ _ => N2
      rename Fr _ _ _ _ => F2
      rename Deck _ => dk2
      refine near_call IH (d := x) (by simp only [D.depth]; omega) (G.push F2 hgL) (fun a o e => lkW (tl := []) F2 N2 hlk (fun _ h => nomatch h) (fun _ h => nomatch h) hgW a o (.inl e)) wd (News.get N2 (by k_mem)) (News.get N2 (by k_mem)) (News.get N2 (by k_mem)) dk2 tab k1 (by simp only [D.depth] at hdp; show dp + 1 + 60 + _ < recursionLimit; units_room) (by simp only [D.depth] at hun; show un + 3 + 6000 + 100 * _ < cLine; units_room) ?_
      intro d' v' nw oK' oR' oN' h' tk' hB' at' sz' dp' dk' tab' eK eR eN fr' _
      have off5 : ∀ p ∈ nw, p.1 ∉ [K, R, Nm] := near_off hB' (fun a ha => by
        simp only [List.mem_cons, List.not_mem_nil, or_false] at ha
        rcases ha with rfl | rfl | rfl
        · exact ⟨_, News.get N2 (by k_mem)⟩
        · exact ⟨_, News.get N2 (by k_mem)⟩
        · exact ⟨_, News.get N2 (by k_mem)⟩)
      obtain ⟨F9, N9⟩ := after3 (ws := [(K, oK'), (R, oR'), (Nm, oN')]) F2 fr' (fun q => absurd rfl (hgL _ q).1) hB' (fun p hp => by
        simp only [List.mem_cons, List.not_mem_nil, or_false] at hp
        rcases hp with rfl | rfl | rfl
        · exact ⟨eK, (hgL _ (by simp)).1, hgW _ (by simp)⟩
        · exact ⟨eR, (hgL _ (by simp)).1, hgW _ (by simp)⟩
        · exact ⟨eN, (hgL _ (by simp)).1, hgW _ (by simp)⟩)
      simp only [List.cons_append, List.nil_append] at N9
      have off1 : ∀ p ∈ nw, p.1 ≠ K := fun p hp q => off5 p hp (by rw [q]; exact List.mem_cons_self)
      have hr := at'.handed
      clear F2 N2 dk2
      repeat' (first | k_unfold | ((fail_if_success (with_reducible show wpAny _ _ (call (Value.ref 349) _) _ _ _)); (fail_if_success (with_reducible show wpAny _ _ (call (Value.ref 356) _) _ _ _)); (fail_if_success (with_reducible show wpAny _ _ (call (Value.ref 128) _) _ _ _)); (fail_if_success (with_reducible show wpAny _ _ (call (Value.ref 149) _) _ _ _)); (fail_if_success (with_reducible show wpAny _ _ (call (Value.ref 85) _) _ _ _)); (fail_if_success (with_reducible show wpAny _ _ (call (Value.ref 107) _) _ _ _)); (fail_if_success (with_reducible show wpAny _ _ (compareOp CmpOp.NotEq (Value.ref _) (Value.ref _)) _ _ _)); (fail_if_success (with_reducible show wpAny _ _ (subscriptTail _ _ (Value.ref _) (Value.int _ _)) _ _ _)); (fail_if_success (with_reducible show wpAny _ _ (setItem _ _ _) _ _ _)); walk1) | ((fail_if_success (with_reducible show wpAny _ _ (call (Value.ref 349) _) _ _ _)); (fail_if_success (with_reducible show wpAny _ _ (call (Value.ref 356) _) _ _ _)); (fail_if_success (with_reducible show wpAny _ _ (call (Value.ref 128) _) _ _ _)); (fail_if_success (with_reducible show wpAny _ _ (call (Value.ref 149) _) _ _ _)); (fail_if_success (with_reducible show wpAny _ _ (call (Value.ref 85) _) _ _ _)); (fail_if_success (with_reducible show wpAny _ _ (call (Value.ref 107) _) _ _ _)); (fail_if_success (with_reducible show wpAny _ _ (compareOp CmpOp.NotEq (Value.ref _) (Value.ref _)) _ _ _)); (fail_if_success (with_reducible show wpAny _ _ (subscriptTail _ _ (Value.ref _) (Value.int _ _)) _ _ _)); (fail_if_success (with_reducible show wpAny _ _ (setItem _ _ _) _ _ _)); dsimp only; walk1))
      refine make_85 hB.down F9 X N9 T rfl rfl (by assumption) (by assumption) (by omega) (by omega) ?_
      intro xx dx t8 t9 h9 tk9 kF kN l1 l2
      have b2 := l1 (K, _) (by k_mem)
      have b3 := l1 (R, _) (by k_mem)
      have b4 := l1 (Nm, _) (by k_mem)
      dsimp only at b2 b3 b4
      have up : ∀ a o, LK lk nw a o → LK lk ((xx, instObj 85 dx) :: (dx, dictOf [ent w "car" t8 v', ent w "cdr" t9 v2] 2) :: nw) a o := fun a o z => z.imp id fun z => List.mem_cons_of_mem _ (List.mem_cons_of_mem _ z)
      refine ret (.cons xx d' y) (.ref xx) _ oK' oR' oN' h9 tk9 (born_W kN ?_ ?_) (At.mono (fun _ _ z => z) (?_ : At w (LK lk ((xx, instObj 85 dx) :: (dx, dictOf [ent w "car" t8 v', ent w "cdr" t9 v2] 2) :: nw)) _ _)) (by simp only [D.size]; omega) (by simp only [D.depth]; omega) dk' (tab'.mono up) (News.get kN (by k_mem)) (News.get kN (by k_mem)) (News.get kN (by k_mem)) (Frame.of_Fr kF) (.inr TokR.ref)
      · intro p hp
        iterate 2 (rcases List.mem_cons.mp hp with rfl | hp; k_mem)
        iterate 5 refine List.mem_cons_of_mem _ ?_
        exact hp
      · intro p hp
        iterate 2 (rcases List.mem_cons.mp hp with rfl | hp; simp only [List.mem_cons, List.not_mem_nil, or_false]; (rintro (h | h | h) <;> exact absurd h (by k_ne)))
        exact off5 p hp
      · simp only [At]
        exact ⟨trivial, dx, _, _, t8, t9, .inr List.mem_cons_self, .inr (List.mem_cons_of_mem _ List.mem_cons_self), at'.mono up, k2.mono fun _ _ z => .inl z⟩
    · rename News _ _ _ _ => N2
      rename Fr _ _ _ _ => F2
      rename Deck _ => dk2
      refine near_call IH (d := y) (by simp only [D.depth]; omega) (G.push F2 hgL) (fun a o e => lkW (tl := []) F2 N2 hlk (fun _ h => nomatch h) (fun _ h => nomatch h) hgW a o (.inl e)) wd (News.get N2 (by k_mem)) (News.get N2 (by k_mem)) (News.get N2 (by k_mem)) dk2 tab k2 (by simp only [D.depth] at hdp; show dp + 1 + 60 + _ < recursionLimit; units_room) (by simp only [D.depth] at hun; show un + 3 + 6000 + 100 * _ < cLine; units_room) ?_
      intro d' v' nw oK' oR' oN' h' tk' hB' at' sz' dp' dk' tab' eK eR eN fr' _
      have off5 : ∀ p ∈ nw, p.1 ∉ [K, R, Nm] := near_off hB' (fun a ha => by
        simp only [List.mem_cons, List.not_mem_nil, or_false] at ha
        rcases ha with rfl | rfl | rfl
        · exact ⟨_, News.get N2 (by k_mem)⟩
        · exact ⟨_, News.get N2 (by k_mem)⟩
        · exact ⟨_, News.get N2 (by k_mem)⟩)
      obtain ⟨F9, N9⟩ := after3 (ws := [(K, oK'), (R, oR'), (Nm, oN')]) F2 fr' (fun q => absurd rfl (hgL _ q).1) hB' (fun p hp => by
        simp only [List.mem_cons, List.not_mem_nil, or_false] at hp
        rcases hp with rfl | rfl | rfl
        · exact ⟨eK, (hgL _ (by simp)).1, hgW _ (by simp)⟩
        · exact ⟨eR, (hgL _ (by simp)).1, hgW _ (by simp)⟩
        · exact ⟨eN, (hgL _ (by simp)).1, hgW _ (by simp)⟩)
      simp only [List.cons_append, List.nil_append] at N9
      have off1 : ∀ p ∈ nw, p.1 ≠ K := fun p hp q => off5 p hp (by rw [q]; exact List.mem_cons_self)
      have hr := at'.handed
      clear F2 N2 dk2
      repeat' (first | k_unfold | ((fail_if_success (with_reducible show wpAny _ _ (call (Value.ref 349) _) _ _ _)); (fail_if_success (with_reducible show wpAny _ _ (call (Value.ref 356) _) _ _ _)); (fail_if_success (with_reducible show wpAny _ _ (call (Value.ref 128) _) _ _ _)); (fail_if_success (with_reducible show wpAny _ _ (call (Value.ref 149) _) _ _ _)); (fail_if_success (with_reducible show wpAny _ _ (call (Value.ref 85) _) _ _ _)); (fail_if_success (with_reducible show wpAny _ _ (call (Value.ref 107) _) _ _ _)); (fail_if_success (with_reducible show wpAny _ _ (compareOp CmpOp.NotEq (Value.ref _) (Value.ref _)) _ _ _)); (fail_if_success (with_reducible show wpAny _ _ (subscriptTail _ _ (Value.ref _) (Value.int _ _)) _ _ _)); (fail_if_success (with_reducible show wpAny _ _ (setItem _ _ _) _ _ _)); walk1) | ((fail_if_success (with_reducible show wpAny _ _ (call (Value.ref 349) _) _ _ _)); (fail_if_success (with_reducible show wpAny _ _ (call (Value.ref 356) _) _ _ _)); (fail_if_success (with_reducible show wpAny _ _ (call (Value.ref 128) _) _ _ _)); (fail_if_success (with_reducible show wpAny _ _ (call (Value.ref 149) _) _ _ _)); (fail_if_success (with_reducible show wpAny _ _ (call (Value.ref 85) _) _ _ _)); (fail_if_success (with_reducible show wpAny _ _ (call (Value.ref 107) _) _ _ _)); (fail_if_success (with_reducible show wpAny _ _ (compareOp CmpOp.NotEq (Value.ref _) (Value.ref _)) _ _ _)); (fail_if_success (with_reducible show wpAny _ _ (subscriptTail _ _ (Value.ref _) (Value.int _ _)) _ _ _)); (fail_if_success (with_reducible show wpAny _ _ (setItem _ _ _) _ _ _)); dsimp only; walk1))
      refine make_85 hB.down F9 X N9 T rfl rfl (by assumption) (by assumption) (by omega) (by omega) ?_
      intro xx dx t8 t9 h9 tk9 kF kN l1 l2
      have b2 := l1 (K, _) (by k_mem)
      have b3 := l1 (R, _) (by k_mem)
      have b4 := l1 (Nm, _) (by k_mem)
      dsimp only at b2 b3 b4
      have up : ∀ a o, LK lk nw a o → LK lk ((xx, instObj 85 dx) :: (dx, dictOf [ent w "car" t8 v1, ent w "cdr" t9 v'] 2) :: nw) a o := fun a o z => z.imp id fun z => List.mem_cons_of_mem _ (List.mem_cons_of_mem _ z)
      refine ret (.cons xx x d') (.ref xx) _ oK' oR' oN' h9 tk9 (born_W kN ?_ ?_) (At.mono (fun _ _ z => z) (?_ : At w (LK lk ((xx, instObj 85 dx) :: (dx, dictOf [ent w "car" t8 v1, ent w "cdr" t9 v'] 2) :: nw)) _ _)) (by simp only [D.size]; omega) (by simp only [D.depth]; omega) dk' (tab'.mono up) (News.get kN (by k_mem)) (News.get kN (by k_mem)) (News.get kN (by k_mem)) (Frame.of_Fr kF) (.inr TokR.ref)
      · intro p hp
        iterate 2 (rcases List.mem_cons.mp hp with rfl | hp; k_mem)
        iterate 5 refine List.mem_cons_of_mem _ ?_
        exact hp
      · intro p hp
        iterate 2 (rcases List.mem_cons.mp hp with rfl | hp; simp only [List.mem_cons, List.not_mem_nil, or_false]; (rintro (h | h | h) <;> exact absurd h (by k_ne)))
        exact off5 p hp
      · simp only [At]
        exact ⟨trivial, dx, _, _, t8, t9, .inr List.mem_cons_self, .inr (List.mem_cons_of_mem _ List.mem_cons_self), k1.mono fun _ _ z => .inl z, at'.mono up⟩
  | vec a k l =>
    have hd2 := hd
    simp only [At] at hd2
    obtain ⟨rfl, da, x, n, vs, t, h1, h2, h3, k1, z1⟩ := hd2
    replace h1 := hlk _ _ h1; replace h2 := hlk _ _ h2; replace h3 := hlk _ _ h3
    cases k
    · simp only [Bool.false_eq_true, if_false] at h1
      repeat' (first | k_unfold | ((fail_if_success (with_reducible show wpAny _ _ (call (Value.ref 349) _) _ _ _)); (fail_if_success (with_reducible show wpAny _ _ (call (Value.ref 356) _) _ _ _)); (fail_if_success (with_reducible show wpAny _ _ (call (Value.ref 128) _) _ _ _)); (fail_if_success (with_reducible show wpAny _ _ (call (Value.ref 149) _) _ _ _)); (fail_if_success (with_reducible show wpAny _ _ (call (Value.ref 85) _) _ _ _)); (fail_if_success (with_reducible show wpAny _ _ (call (Value.ref 107) _) _ _ _)); (fail_if_success (with_reducible show wpAny _ _ (compareOp CmpOp.NotEq (Value.ref _) (Value.ref _)) _ _ _)); (fail_if_success (with_reducible show wpAny _ _ (subscriptTail _ _ (Value.ref _) (Value.int _ _)) _ _ _)); (fail_if_success (with_reducible show wpAny _ _ (setItem _ _ _) _ _ _)); walk1) | ((fail_if_success (with_reducible show wpAny _ _ (call (Value.ref 349) _) _ _ _)); (fail_if_success (with_reducible show wpAny _ _ (call (Value.ref 356) _) _ _ _)); (fail_if_success (with_reducible show wpAny _ _ (call (Value.ref 128) _) _ _ _)); (fail_if_success (with_reducible show wpAny _ _ (call (Value.ref 149) _) _ _ _)); (fail_if_success (with_reducible show wpAny _ _ (call (Value.ref 85) _) _ _ _)); (fail_if_success (with_reducible show wpAny _ _ (call (Value.ref 107) _) _ _ _)); (fail_if_success (with_reducible show wpAny _ _ (compareOp CmpOp.NotEq (Value.ref _) (Value.ref _)) _ _ _)); (fail_if_success (with_reducible show wpAny _ _ (subscriptTail _ _ (Value.ref _) (Value.int _ _)) _ _ _)); (fail_if_success (with_reducible show wpAny _ _ (setItem _ _ _) _ _ _)); dsimp only; walk1))
      · rename News _ _ _ _ => N9
        rename Fr _ _ _ _ => F9
        refine list_copyK F9 N9 ⟨_, Fr.keep F9 _ _ h3, rfl, n, rfl⟩ ?_ (len_fits k1.len z1)
        clear F9 N9
        intro D1 c1 h1' F9 N9 l1
        have l1K : @LT.lt Nat _ K D1 := l1 (K, _) (by k_mem)
        have l1R : @LT.lt Nat _ R D1 := l1 (R, _) (by k_mem)
        have l1N : @LT.lt Nat _ Nm D1 := l1 (Nm, _) (by k_mem)
        clear l1
        repeat' (first | k_unfold | ((fail_if_success (with_reducible show wpAny _ _ (call (Value.ref 349) _) _ _ _)); (fail_if_success (with_reducible show wpAny _ _ (call (Value.ref 356) _) _ _ _)); (fail_if_success (with_reducible show wpAny _ _ (call (Value.ref 128) _) _ _ _)); (fail_if_success (with_reducible show wpAny _ _ (call (Value.ref 149) _) _ _ _)); (fail_if_success (with_reducible show wpAny _ _ (call (Value.ref 85) _) _ _ _)); (fail_if_success (with_reducible show wpAny _ _ (call (Value.ref 107) _) _ _ _)); (fail_if_success (with_reducible show wpAny _ _ (compareOp CmpOp.NotEq (Value.ref _) (Value.ref _)) _ _ _)); (fail_if_success (with_reducible show wpAny _ _ (subscriptTail _ _ (Value.ref _) (Value.int _ _)) _ _ _)); (fail_if_success (with_reducible show wpAny _ _ (setItem _ _ _) _ _ _)); walk1) | ((fail_if_success (with_reducible show wpAny _ _ (call (Value.ref 349) _) _ _ _)); (fail_if_success (with_reducible show wpAny _ _ (call (Value.ref 356) _) _ _ _)); (fail_if_success (with_reducible show wpAny _ _ (call (Value.ref 128) _) _ _ _)); (fail_if_success (with_reducible show wpAny _ _ (call (Value.ref 149) _) _ _ _)); (fail_if_success (with_reducible show wpAny _ _ (call (Value.ref 85) _) _ _ _)); (fail_if_success (with_reducible show wpAny _ _ (call (Value.ref 107) _) _ _ _)); (fail_if_success (with_reducible show wpAny _ _ (compareOp CmpOp.NotEq (Value.ref _) (Value.ref _)) _ _ _)); (fail_if_success (with_reducible show wpAny _ _ (subscriptTail _ _ (Value.ref _) (Value.int _ _)) _ _ _)); (fail_if_success (with_reducible show wpAny _ _ (setItem _ _ _) _ _ _)); dsimp only; walk1))
        refine ne_nil (News.isList (by k_asm) (by k_mem)) (News.isList (by k_asm) (by k_mem)) (by show un + 3 < cLine; units_room) ?_
        have hvl := k1.len
        cases hb : vs.toArray.isEmpty
        · simp only [Bool.not_false]
          have hpos : 0 < vs.length := by cases vs; simp at hb; simp
          repeat' (first | k_unfold | ((fail_if_success (with_reducible show wpAny _ _ (call (Value.builtin "len") _) _ _ _)); walk1) | ((fail_if_success (with_reducible show wpAny _ _ (call (Value.builtin "len") _) _ _ _)); dsimp only; walk1))
          refine call_len_list (News.isList (by k_asm) (by k_mem)) (by rw [List.size_toArray]; omega) ?_
          simp only [List.size_toArray]
          repeat' (first | k_unfold | ((fail_if_success (with_reducible show wpAny _ _ (call (Value.ref 339) _) _ _ _)); walk1) | ((fail_if_success (with_reducible show wpAny _ _ (call (Value.ref 339) _) _ _ _)); dsimp only; walk1))
          rename News _ _ _ _ => N2
          rename Fr _ _ _ _ => F2
          refine draw_spec (gd1 (by assumption) (by k_asm) (by k_asm) (by k_updF)) (get1 (by k_asm) (by k_updF)) (by assumption) (by omega) (by omega) (by dsimp only; omega) (by dsimp only; omega) ?_
          intro k3 t3 ok3 h3 tk3 p3 p4 dk3 hK3 fr3
          obtain ⟨F3, N3⟩ := after1 F2 N2 (by k_updF) fr3 hK3
          clear F2 N2 fr3 hK3
          try dsimp only at N3
          obtain ⟨j, rfl⟩ : ∃ n : Nat, k3 = n := ⟨k3.toNat, by omega⟩
          have hj : j < vs.length := by omega
          obtain ⟨ev, e, hev, hee, hde, hse, hset⟩ := k1.pick hj
          have qe := hee.handed
          repeat' (first | k_unfold | ((fail_if_success (with_reducible show wpAny _ _ (subscriptTail _ _ (Value.ref _) (Value.int _ _)) _ _ _)); walk1) | ((fail_if_success (with_reducible show wpAny _ _ (subscriptTail _ _ (Value.ref _) (Value.int _ _)) _ _ _)); dsimp only; walk1))
          refine item_listL (News.isList (by k_asm) (by k_mem)) (by omega) (by omega) (by simpa using hev) ?_
          repeat' (first | k_unfold | ((fail_if_success (with_reducible show wpAny _ _ (call (Value.ref 349) _) _ _ _)); (fail_if_success (with_reducible show wpAny _ _ (call (Value.ref 356) _) _ _ _)); (fail_if_success (with_reducible show wpAny _ _ (call (Value.ref 128) _) _ _ _)); (fail_if_success (with_reducible show wpAny _ _ (call (Value.ref 149) _) _ _ _)); (fail_if_success (with_reducible show wpAny _ _ (call (Value.ref 85) _) _ _ _)); (fail_if_success (with_reducible show wpAny _ _ (call (Value.ref 107) _) _ _ _)); (fail_if_success (with_reducible show wpAny _ _ (compareOp CmpOp.NotEq (Value.ref _) (Value.ref _)) _ _ _)); (fail_if_success (with_reducible show wpAny _ _ (subscriptTail _ _ (Value.ref _) (Value.int _ _)) _ _ _)); (fail_if_success (with_reducible show wpAny _ _ (setItem _ _ _) _ _ _)); walk1) | ((fail_if_success (with_reducible show wpAny _ _ (call (Value.ref 349) _) _ _ _)); (fail_if_success (with_reducible show wpAny _ _ (call (Value.ref 356) _) _ _ _)); (fail_if_success (with_reducible show wpAny _ _ (call (Value.ref 128) _) _ _ _)); (fail_if_success (with_reducible show wpAny _ _ (call (Value.ref 149) _) _ _ _)); (fail_if_success (with_reducible show wpAny _ _ (call (Value.ref 85) _) _ _ _)); (fail_if_success (with_reducible show wpAny _ _ (call (Value.ref 107) _) _ _ _)); (fail_if_success (with_reducible show wpAny _ _ (compareOp CmpOp.NotEq (Value.ref _) (Value.ref _)) _ _ _)); (fail_if_success (with_reducible show wpAny _ _ (subscriptTail _ _ (Value.ref _) (Value.int _ _)) _ _ _)); (fail_if_success (with_reducible show wpAny _ _ (setItem _ _ _) _ _ _)); dsimp only; walk1))
          try clear F3 N3
          rename News _ _ _ _ => N2
          rename Fr _ _ _ _ => F2
          refine near_call IH (d := e) (by simp only [D.depth]; omega) (G.push F2 hgL) (fun a o e => lkW (tl := []) F2 N2 hlk (fun _ h => nomatch h) (fun _ h => nomatch h) hgW a o (.inl e)) wd (News.get N2 (by k_mem)) (News.get N2 (by k_mem)) (News.get N2 (by k_mem)) dk3 tab hee (by simp only [D.depth] at hdp; show dp + 1 + 60 + _ < recursionLimit; units_room) (by simp only [D.depth] at hun; show un + 3 + 6000 + 100 * _ < cLine; units_room) ?_
          intro d' v' nw oK' oR' oN' h' tk' hB' at' sz' dp' dk' tab' eK eR eN fr' _
          have off5 : ∀ p ∈ nw, p.1 ∉ [K, R, Nm] := near_off hB' (fun a ha => by
            simp only [List.mem_cons, List.not_mem_nil, or_false] at ha
            rcases ha with rfl | rfl | rfl
            · exact ⟨_, News.get N2 (by k_mem)⟩
            · exact ⟨_, News.get N2 (by k_mem)⟩
            · exact ⟨_, News.get N2 (by k_mem)⟩)
          have gD : Heap.get? _ D1 = some (PySem.W.listOf vs.toArray c1) := News.get N2 (by k_mem)
          have gN := (N2 (D1, PySem.W.listOf vs.toArray c1) (by k_mem)).2
          have offD : ∀ p ∈ nw, p.1 ≠ D1 := fun p hp q => by
            have := (hB' p hp).2
            rw [q, gD] at this; cases this
          obtain ⟨F9, N9⟩ := after3 (ws := [(D1, PySem.W.listOf vs.toArray c1), (K, oK'), (R, oR'), (Nm, oN')]) F2 fr' (fun q => absurd rfl (hgL _ q).1) hB' (fun p hp => by
            simp only [List.mem_cons, List.not_mem_nil, or_false] at hp
            rcases hp with rfl | rfl | rfl | rfl
            · exact ⟨fr' _ _ (by
                simp only [List.mem_cons, List.not_mem_nil, or_false]
                rintro (h | h | h) <;> exact absurd h (by k_ne)) gD, gN⟩
            · exact ⟨eK, (hgL _ (by simp)).1, hgW _ (by simp)⟩
            · exact ⟨eR, (hgL _ (by simp)).1, hgW _ (by simp)⟩
            · exact ⟨eN, (hgL _ (by simp)).1, hgW _ (by simp)⟩)
          simp only [List.cons_append, List.nil_append] at N9
          have off1 : ∀ p ∈ nw, p.1 ≠ K := fun p hp q => off5 p hp (by rw [q]; exact List.mem_cons_self)
          have hr := at'.handed
          clear F2 N2 gD gN
          repeat' (first | k_unfold | ((fail_if_success (with_reducible show wpAny _ _ (call (Value.ref 349) _) _ _ _)); (fail_if_success (with_reducible show wpAny _ _ (call (Value.ref 356) _) _ _ _)); (fail_if_success (with_reducible show wpAny _ _ (call (Value.ref 128) _) _ _ _)); (fail_if_success (with_reducible show wpAny _ _ (call (Value.ref 149) _) _ _ _)); (fail_if_success (with_reducible show wpAny _ _ (call (Value.ref 85) _) _ _ _)); (fail_if_success (with_reducible show wpAny _ _ (call (Value.ref 107) _) _ _ _)); (fail_if_success (with_reducible show wpAny _ _ (compareOp CmpOp.NotEq (Value.ref _) (Value.ref _)) _ _ _)); (fail_if_success (with_reducible show wpAny _ _ (subscriptTail _ _ (Value.ref _) (Value.int _ _)) _ _ _)); (fail_if_success (with_reducible show wpAny _ _ (setItem _ _ _) _ _ _)); walk1) | ((fail_if_success (with_reducible show wpAny _ _ (call (Value.ref 349) _) _ _ _)); (fail_if_success (with_reducible show wpAny _ _ (call (Value.ref 356) _) _ _ _)); (fail_if_success (with_reducible show wpAny _ _ (call (Value.ref 128) _) _ _ _)); (fail_if_success (with_reducible show wpAny _ _ (call (Value.ref 149) _) _ _ _)); (fail_if_success (with_reducible show wpAny _ _ (call (Value.ref 85) _) _ _ _)); (fail_if_success (with_reducible show wpAny _ _ (call (Value.ref 107) _) _ _ _)); (fail_if_success (with_reducible show wpAny _ _ (compareOp CmpOp.NotEq (Value.ref _) (Value.ref _)) _ _ _)); (fail_if_success (with_reducible show wpAny _ _ (subscriptTail _ _ (Value.ref _) (Value.int _ _)) _ _ _)); (fail_if_success (with_reducible show wpAny _ _ (setItem _ _ _) _ _ _)); dsimp only; walk1))
          rename News _ _ _ _ => N2
          rename Fr _ _ _ _ => F2
          refine set_at F2 N2 ?_ hj (by omega) ?_
          · intro p hp
            simp only [List.mem_cons] at hp
            rcases hp with rfl | rfl | rfl | hp
            · k_ne
            · k_ne
            · k_ne
            · exact offD p hp
          intro h9 F9 N9
          clear F2 N2
          obtain ⟨l', z5, z6, z7, z8⟩ := hset (LK lk nw) d' v' (fun _ _ z => .inl z) at'
          repeat' (first | k_unfold | ((fail_if_success (with_reducible show wpAny _ _ (call (Value.ref 349) _) _ _ _)); (fail_if_success (with_reducible show wpAny _ _ (call (Value.ref 356) _) _ _ _)); (fail_if_success (with_reducible show wpAny _ _ (call (Value.ref 128) _) _ _ _)); (fail_if_success (with_reducible show wpAny _ _ (call (Value.ref 149) _) _ _ _)); (fail_if_success (with_reducible show wpAny _ _ (call (Value.ref 85) _) _ _ _)); (fail_if_success (with_reducible show wpAny _ _ (call (Value.ref 107) _) _ _ _)); (fail_if_success (with_reducible show wpAny _ _ (compareOp CmpOp.NotEq (Value.ref _) (Value.ref _)) _ _ _)); (fail_if_success (with_reducible show wpAny _ _ (subscriptTail _ _ (Value.ref _) (Value.int _ _)) _ _ _)); (fail_if_success (with_reducible show wpAny _ _ (setItem _ _ _) _ _ _)); walk1) | ((fail_if_success (with_reducible show wpAny _ _ (call (Value.ref 349) _) _ _ _)); (fail_if_success (with_reducible show wpAny _ _ (call (Value.ref 356) _) _ _ _)); (fail_if_success (with_reducible show wpAny _ _ (call (Value.ref 128) _) _ _ _)); (fail_if_success (with_reducible show wpAny _ _ (call (Value.ref 149) _) _ _ _)); (fail_if_success (with_reducible show wpAny _ _ (call (Value.ref 85) _) _ _ _)); (fail_if_success (with_reducible show wpAny _ _ (call (Value.ref 107) _) _ _ _)); (fail_if_success (with_reducible show wpAny _ _ (compareOp CmpOp.NotEq (Value.ref _) (Value.ref _)) _ _ _)); (fail_if_success (with_reducible show wpAny _ _ (subscriptTail _ _ (Value.ref _) (Value.int _ _)) _ _ _)); (fail_if_success (with_reducible show wpAny _ _ (setItem _ _ _) _ _ _)); dsimp only; walk1))
          · refine vec_fin false hB.down F9 X N9 T rfl rfl (by omega) (by omega) l1K l1R l1N off5 z5 (by omega) ?_ ?_ dk' tab' (fun _ _ => .inr TokR.ref) ret <;> simp only [D.size, D.depth] <;> omega
          · refine vec_fin true hB.down F9 X N9 T rfl rfl (by omega) (by omega) l1K l1R l1N off5 z5 (by omega) ?_ ?_ dk' tab' (fun _ _ => .inr TokR.ref) ret <;> simp only [D.size, D.depth] <;> omega
        · simp only [Bool.not_true]
          repeat' (first | k_unfold | ((fail_if_success (with_reducible show wpAny _ _ (call (Value.ref 349) _) _ _ _)); (fail_if_success (with_reducible show wpAny _ _ (call (Value.ref 356) _) _ _ _)); (fail_if_success (with_reducible show wpAny _ _ (call (Value.ref 128) _) _ _ _)); (fail_if_success (with_reducible show wpAny _ _ (call (Value.ref 149) _) _ _ _)); (fail_if_success (with_reducible show wpAny _ _ (call (Value.ref 85) _) _ _ _)); (fail_if_success (with_reducible show wpAny _ _ (call (Value.ref 107) _) _ _ _)); (fail_if_success (with_reducible show wpAny _ _ (compareOp CmpOp.NotEq (Value.ref _) (Value.ref _)) _ _ _)); (fail_if_success (with_reducible show wpAny _ _ (subscriptTail _ _ (Value.ref _) (Value.int _ _)) _ _ _)); (fail_if_success (with_reducible show wpAny _ _ (setItem _ _ _) _ _ _)); walk1) | ((fail_if_success (with_reducible show wpAny _ _ (call (Value.ref 349) _) _ _ _)); (fail_if_success (with_reducible show wpAny _ _ (call (Value.ref 356) _) _ _ _)); (fail_if_success (with_reducible show wpAny _ _ (call (Value.ref 128) _) _ _ _)); (fail_if_success (with_reducible show wpAny _ _ (call (Value.ref 149) _) _ _ _)); (fail_if_success (with_reducible show wpAny _ _ (call (Value.ref 85) _) _ _ _)); (fail_if_success (with_reducible show wpAny _ _ (call (Value.ref 107) _) _ _ _)); (fail_if_success (with_reducible show wpAny _ _ (compareOp CmpOp.NotEq (Value.ref _) (Value.ref _)) _ _ _)); (fail_if_success (with_reducible show wpAny _ _ (subscriptTail _ _ (Value.ref _) (Value.int _ _)) _ _ _)); (fail_if_success (with_reducible show wpAny _ _ (setItem _ _ _) _ _ _)); dsimp only; walk1))
          all_goals (rename News _ _ _ _ => N2; rename Fr _ _ _ _ => F2; rename Deck _ => dk2)
          · refine vec_fin (nw := []) (c9 := c1) false hB.down F2 X (fun p hp => N2 p (by simp only [List.mem_cons, List.not_mem_nil, or_false] at hp ⊢; rcases hp with rfl | rfl | rfl | rfl <;> simp)) T rfl rfl (by omega) (by omega) l1K l1R l1N (fun _ h => nomatch h) (k1.mono fun _ _ z => .inl z) (by omega) ?_ ?_ dk2 (tab.mono fun _ _ z => .inl z) (fun _ _ => .inr TokR.ref) ret <;> simp only [D.size, D.depth] <;> omega
          · refine vec_fin (nw := []) (c9 := c1) true hB.down F2 X (fun p hp => N2 p (by simp only [List.mem_cons, List.not_mem_nil, or_false] at hp ⊢; rcases hp with rfl | rfl | rfl | rfl <;> simp)) T rfl rfl (by omega) (by omega) l1K l1R l1N (fun _ h => nomatch h) (k1.mono fun _ _ z => .inl z) (by omega) ?_ ?_ dk2 (tab.mono fun _ _ z => .inl z) (fun _ _ => .inr TokR.ref) ret <;> simp only [D.size, D.depth] <;> omega
    · simp only [if_true] at h1
      repeat' (first | k_unfold | ((fail_if_success (with_reducible show wpAny _ _ (call (Value.ref 349) _) _ _ _)); (fail_if_success (with_reducible show wpAny _ _ (call (Value.ref 356) _) _ _ _)); (fail_if_success (with_reducible show wpAny _ _ (call (Value.ref 128) _) _ _ _)); (fail_if_success (with_reducible show wpAny _ _ (call (Value.ref 149) _) _ _ _)); (fail_if_success (with_reducible show wpAny _ _ (call (Value.ref 85) _) _ _ _)); (fail_if_success (with_reducible show wpAny _ _ (call (Value.ref 107) _) _ _ _)); (fail_if_success (with_reducible show wpAny _ _ (compareOp CmpOp.NotEq (Value.ref _) (Value.ref _)) _ _ _)); (fail_if_success (with_reducible show wpAny _ _ (subscriptTail _ _ (Value.ref _) (Value.int _ _)) _ _ _)); (fail_if_success (with_reducible show wpAny _ _ (setItem _ _ _) _ _ _)); walk1) | ((fail_if_success (with_reducible show wpAny _ _ (call (Value.ref 349) _) _ _ _)); (fail_if_success (with_reducible show wpAny _ _ (call (Value.ref 356) _) _ _ _)); (fail_if_success (with_reducible show wpAny _ _ (call (Value.ref 128) _) _ _ _)); (fail_if_success (with_reducible show wpAny _ _ (call (Value.ref 149) _) _ _ _)); (fail_if_success (with_reducible show wpAny _ _ (call (Value.ref 85) _) _ _ _)); (fail_if_success (with_reducible show wpAny _ _ (call (Value.ref 107) _) _ _ _)); (fail_if_success (with_reducible show wpAny _ _ (compareOp CmpOp.NotEq (Value.ref _) (Value.ref _)) _ _ _)); (fail_if_success (with_reducible show wpAny _ _ (subscriptTail _ _ (Value.ref _) (Value.int _ _)) _ _ _)); (fail_if_success (with_reducible show wpAny _ _ (setItem _ _ _) _ _ _)); dsimp only; walk1))
      · rename News _ _ _ _ => N9
        rename Fr _ _ _ _ => F9
        refine list_copyK F9 N9 ⟨_, Fr.keep F9 _ _ h3, rfl, n, rfl⟩ ?_ (len_fits k1.len z1)
        clear F9 N9
        intro D1 c1 h1' F9 N9 l1
        have l1K : @LT.lt Nat _ K D1 := l1 (K, _) (by k_mem)
        have l1R : @LT.lt Nat _ R D1 := l1 (R, _) (by k_mem)
        have l1N : @LT.lt Nat _ Nm D1 := l1 (Nm, _) (by k_mem)
        clear l1
        repeat' (first | k_unfold | ((fail_if_success (with_reducible show wpAny _ _ (call (Value.ref 349) _) _ _ _)); (fail_if_success (with_reducible show wpAny _ _ (call (Value.ref 356) _) _ _ _)); (fail_if_success (with_reducible show wpAny _ _ (call (Value.ref 128) _) _ _ _)); (fail_if_success (with_reducible show wpAny _ _ (call (Value.ref 149) _) _ _ _)); (fail_if_success (with_reducible show wpAny _ _ (call (Value.ref 85) _) _ _ _)); (fail_if_success (with_reducible show wpAny _ _ (call (Value.ref 107) _) _ _ _)); (fail_if_success (with_reducible show wpAny _ _ (compareOp CmpOp.NotEq (Value.ref _) (Value.ref _)) _ _ _)); (fail_if_success (with_reducible show wpAny _ _ (subscriptTail _ _ (Value.ref _) (Value.int _ _)) _ _ _)); (fail_if_success (with_reducible show wpAny _ _ (setItem _ _ _) _ _ _)); walk1) | ((fail_if_success (with_reducible show wpAny _ _ (call (Value.ref 349) _) _ _ _)); (fail_if_success (with_reducible show wpAny _ _ (call (Value.ref 356) _) _ _ _)); (fail_if_success (with_reducible show wpAny _ _ (call (Value.ref 128) _) _ _ _)); (fail_if_success (with_reducible show wpAny _ _ (call (Value.ref 149) _) _ _ _)); (fail_if_success (with_reducible show wpAny _ _ (call (Value.ref 85) _) _ _ _)); (fail_if_success (with_reducible show wpAny _ _ (call (Value.ref 107) _) _ _ _)); (fail_if_success (with_reducible show wpAny _ _ (compareOp CmpOp.NotEq (Value.ref _) (Value.ref _)) _ _ _)); (fail_if_success (with_reducible show wpAny _ _ (subscriptTail _ _ (Value.ref _) (Value.int _ _)) _ _ _)); (fail_if_success (with_reducible show wpAny _ _ (setItem _ _ _) _ _ _)); dsimp only; walk1))
        refine ne_nil (News.isList (by k_asm) (by k_mem)) (News.isList (by k_asm) (by k_mem)) (by show un + 3 < cLine; units_room) ?_
        have hvl := k1.len
        cases hb : vs.toArray.isEmpty
        · simp only [Bool.not_false]
          have hpos : 0 < vs.length := by cases vs; simp at hb; simp
          repeat' (first | k_unfold | ((fail_if_success (with_reducible show wpAny _ _ (call (Value.builtin "len") _) _ _ _)); walk1) | ((fail_if_success (with_reducible show wpAny _ _ (call (Value.builtin "len") _) _ _ _)); dsimp only; walk1))
          refine call_len_list (News.isList (by k_asm) (by k_mem)) (by rw [List.size_toArray]; omega) ?_
          simp only [List.size_toArray]
          repeat' (first | k_unfold | ((fail_if_success (with_reducible show wpAny _ _ (call (Value.ref 339) _) _ _ _)); walk1) | ((fail_if_success (with_reducible show wpAny _ _ (call (Value.ref 339) _) _ _ _)); dsimp only; walk1))
          rename News _ _ _ _ => N2
          rename Fr _ _ _ _ => F2
          refine draw_spec (gd1 (by assumption) (by k_asm) (by k_asm) (by k_updF)) (get1 (by k_asm) (by k_updF)) (by assumption) (by omega) (by omega) (by dsimp only; omega) (by dsimp only; omega) ?_
          intro k3 t3 ok3 h3 tk3 p3 p4 dk3 hK3 fr3
          obtain ⟨F3, N3⟩ := after1 F2 N2 (by k_updF) fr3 hK3
          clear F2 N2 fr3 hK3
          try dsimp only at N3
          obtain ⟨j, rfl⟩ : ∃ n : Nat, k3 = n := ⟨k3.toNat, by omega⟩
          have hj : j < vs.length := by omega
          obtain ⟨ev, e, hev, hee, hde, hse, hset⟩ := k1.pick hj
          have qe := hee.handed
          repeat' (first | k_unfold | ((fail_if_success (with_reducible show wpAny _ _ (subscriptTail _ _ (Value.ref _) (Value.int _ _)) _ _ _)); walk1) | ((fail_if_success (with_reducible show wpAny _ _ (subscriptTail _ _ (Value.ref _) (Value.int _ _)) _ _ _)); dsimp only; walk1))
          refine item_listL (News.isList (by k_asm) (by k_mem)) (by omega) (by omega) (by simpa using hev) ?_
          repeat' (first | k_unfold | ((fail_if_success (with_reducible show wpAny _ _ (call (Value.ref 349) _) _ _ _)); (fail_if_success (with_reducible show wpAny _ _ (call (Value.ref 356) _) _ _ _)); (fail_if_success (with_reducible show wpAny _ _ (call (Value.ref 128) _) _ _ _)); (fail_if_success (with_reducible show wpAny _ _ (call (Value.ref 149) _) _ _ _)); (fail_if_success (with_reducible show wpAny _ _ (call (Value.ref 85) _) _ _ _)); (fail_if_success (with_reducible show wpAny _ _ (call (Value.ref 107) _) _ _ _)); (fail_if_success (with_reducible show wpAny _ _ (compareOp CmpOp.NotEq (Value.ref _) (Value.ref _)) _ _ _)); (fail_if_success (with_reducible show wpAny _ _ (subscriptTail _ _ (Value.ref _) (Value.int _ _)) _ _ _)); (fail_if_success (with_reducible show wpAny _ _ (setItem _ _ _) _ _ _)); walk1) | ((fail_if_success (with_reducible show wpAny _ _ (call (Value.ref 349) _) _ _ _)); (fail_if_success (with_reducible show wpAny _ _ (call (Value.ref 356) _) _ _ _)); (fail_if_success (with_reducible show wpAny _ _ (call (Value.ref 128) _) _ _ _)); (fail_if_success (with_reducible show wpAny _ _ (call (Value.ref 149) _) _ _ _)); (fail_if_success (with_reducible show wpAny _ _ (call (Value.ref 85) _) _ _ _)); (fail_if_success (with_reducible show wpAny _ _ (call (Value.ref 107) _) _ _ _)); (fail_if_success (with_reducible show wpAny _ _ (compareOp CmpOp.NotEq (Value.ref _) (Value.ref _)) _ _ _)); (fail_if_success (with_reducible show wpAny _ _ (subscriptTail _ _ (Value.ref _) (Value.int _ _)) _ _ _)); (fail_if_success (with_reducible show wpAny _ _ (setItem _ _ _) _ _ _)); dsimp only; walk1))
          try clear F3 N3
          rename News _ _ _ _ => N2
          rename Fr _ _ _ _ => F2
          refine near_call IH (d := e) (by simp only [D.depth]; omega) (G.push F2 hgL) (fun a o e => lkW (tl := []) F2 N2 hlk (fun _ h => nomatch h) (fun _ h => nomatch h) hgW a o (.inl e)) wd (News.get N2 (by k_mem)) (News.get N2 (by k_mem)) (News.get N2 (by k_mem)) dk3 tab hee (by simp only [D.depth] at hdp; show dp + 1 + 60 + _ < recursionLimit; units_room) (by simp only [D.depth] at hun; show un + 3 + 6000 + 100 * _ < cLine; units_room) ?_
          intro d' v' nw oK' oR' oN' h' tk' hB' at' sz' dp' dk' tab' eK eR eN fr' _
          have off5 : ∀ p ∈ nw, p.1 ∉ [K, R, Nm] := near_off hB' (fun a ha => by
            simp only [List.mem_cons, List.not_mem_nil, or_false] at ha
            rcases ha with rfl | rfl | rfl
            · exact ⟨_, News.get N2 (by k_mem)⟩
            · exact ⟨_, News.get N2 (by k_mem)⟩
            · exact ⟨_, News.get N2 (by k_mem)⟩)
          have gD : Heap.get? _ D1 = some (PySem.W.listOf vs.toArray c1) := News.get N2 (by k_mem)
          have gN := (N2 (D1, PySem.W.listOf vs.toArray c1) (by k_mem)).2
          have offD : ∀ p ∈ nw, p.1 ≠ D1 := fun p hp q => by
            have := (hB' p hp).2
            rw [q, gD] at this; cases this
          obtain ⟨F9, N9⟩ := after3 (ws := [(D1, PySem.W.listOf vs.toArray c1), (K, oK'), (R, oR'), (Nm, oN')]) F2 fr' (fun q => absurd rfl (hgL _ q).1) hB' (fun p hp => by
            simp only [List.mem_cons, List.not_mem_nil, or_false] at hp
            rcases hp with rfl | rfl | rfl | rfl
            · exact ⟨fr' _ _ (by
                simp only [List.mem_cons, List.not_mem_nil, or_false]
                rintro (h | h | h) <;> exact absurd h (by k_ne)) gD, gN⟩
            · exact ⟨eK, (hgL _ (by simp)).1, hgW _ (by simp)⟩
            · exact ⟨eR, (hgL _ (by simp)).1, hgW _ (by simp)⟩
            · exact ⟨eN, (hgL _ (by simp)).1, hgW _ (by simp)⟩)
          simp only [List.cons_append, List.nil_append] at N9
          have off1 : ∀ p ∈ nw, p.1 ≠ K := fun p hp q => off5 p hp (by rw [q]; exact List.mem_cons_self)
          have hr := at'.handed
          clear F2 N2 gD gN
          repeat' (first | k_unfold | ((fail_if_success (with_reducible show wpAny _ _ (call (Value.ref 349) _) _ _ _)); (fail_if_success (with_reducible show wpAny _ _ (call (Value.ref 356) _) _ _ _)); (fail_if_success (with_reducible show wpAny _ _ (call (Value.ref 128) _) _ _ _)); (fail_if_success (with_reducible show wpAny _ _ (call (Value.ref 149) _) _ _ _)); (fail_if_success (with_reducible show wpAny _ _ (call (Value.ref 85) _) _ _ _)); (fail_if_success (with_reducible show wpAny _ _ (call (Value.ref 107) _) _ _ _)); (fail_if_success (with_reducible show wpAny _ _ (compareOp CmpOp.NotEq (Value.ref _) (Value.ref _)) _ _ _)); (fail_if_success (with_reducible show wpAny _ _ (subscriptTail _ _ (Value.ref _) (Value.int _ _)) _ _ _)); (fail_if_success (with_reducible show wpAny _ _ (setItem _ _ _) _ _ _)); walk1) | ((fail_if_success (with_reducible show wpAny _ _ (call (Value.ref 349) _) _ _ _)); (fail_if_success (with_reducible show wpAny _ _ (call (Value.ref 356) _) _ _ _)); (fail_if_success (with_reducible show wpAny _ _ (call (Value.ref 128) _) _ _ _)); (fail_if_success (with_reducible show wpAny _ _ (call (Value.ref 149) _) _ _ _)); (fail_if_success (with_reducible show wpAny _ _ (call (Value.ref 85) _) _ _ _)); (fail_if_success (with_reducible show wpAny _ _ (call (Value.ref 107) _) _ _ _)); (fail_if_success (with_reducible show wpAny _ _ (compareOp CmpOp.NotEq (Value.ref _) (Value.ref _)) _ _ _)); (fail_if_success (with_reducible show wpAny _ _ (subscriptTail _ _ (Value.ref _) (Value.int _ _)) _ _ _)); (fail_if_success (with_reducible show wpAny _ _ (setItem _ _ _) _ _ _)); dsimp only; walk1))
          rename News _ _ _ _ => N2
          rename Fr _ _ _ _ => F2
          refine set_at F2 N2 ?_ hj (by omega) ?_
          · intro p hp
            simp only [List.mem_cons] at hp
            rcases hp with rfl | rfl | rfl | hp
            · k_ne
            · k_ne
            · k_ne
            · exact offD p hp
          intro h9 F9 N9
          clear F2 N2
          obtain ⟨l', z5, z6, z7, z8⟩ := hset (LK lk nw) d' v' (fun _ _ z => .inl z) at'
          repeat' (first | k_unfold | ((fail_if_success (with_reducible show wpAny _ _ (call (Value.ref 349) _) _ _ _)); (fail_if_success (with_reducible show wpAny _ _ (call (Value.ref 356) _) _ _ _)); (fail_if_success (with_reducible show wpAny _ _ (call (Value.ref 128) _) _ _ _)); (fail_if_success (with_reducible show wpAny _ _ (call (Value.ref 149) _) _ _ _)); (fail_if_success (with_reducible show wpAny _ _ (call (Value.ref 85) _) _ _ _)); (fail_if_success (with_reducible show wpAny _ _ (call (Value.ref 107) _) _ _ _)); (fail_if_success (with_reducible show wpAny _ _ (compareOp CmpOp.NotEq (Value.ref _) (Value.ref _)) _ _ _)); (fail_if_success (with_reducible show wpAny _ _ (subscriptTail _ _ (Value.ref _) (Value.int _ _)) _ _ _)); (fail_if_success (with_reducible show wpAny _ _ (setItem _ _ _) _ _ _)); walk1) | ((fail_if_success (with_reducible show wpAny _ _ (call (Value.ref 349) _) _ _ _)); (fail_if_success (with_reducible show wpAny _ _ (call (Value.ref 356) _) _ _ _)); (fail_if_success (with_reducible show wpAny _ _ (call (Value.ref 128) _) _ _ _)); (fail_if_success (with_reducible show wpAny _ _ (call (Value.ref 149) _) _ _ _)); (fail_if_success (with_reducible show wpAny _ _ (call (Value.ref 85) _) _ _ _)); (fail_if_success (with_reducible show wpAny _ _ (call (Value.ref 107) _) _ _ _)); (fail_if_success (with_reducible show wpAny _ _ (compareOp CmpOp.NotEq (Value.ref _) (Value.ref _)) _ _ _)); (fail_if_success (with_reducible show wpAny _ _ (subscriptTail _ _ (Value.ref _) (Value.int _ _)) _ _ _)); (fail_if_success (with_reducible show wpAny _ _ (setItem _ _ _) _ _ _)); dsimp only; walk1))
          · refine vec_fin false hB.down F9 X N9 T rfl rfl (by omega) (by omega) l1K l1R l1N off5 z5 (by omega) ?_ ?_ dk' tab' (fun _ _ => .inr TokR.ref) ret <;> simp only [D.size, D.depth] <;> omega
          · refine vec_fin true hB.down F9 X N9 T rfl rfl (by omega) (by omega) l1K l1R l1N off5 z5 (by omega) ?_ ?_ dk' tab' (fun _ _ => .inr TokR.ref) ret <;> simp only [D.size, D.depth] <;> omega
        · simp only [Bool.not_true]
          repeat' (first | k_unfold | ((fail_if_success (with_reducible show wpAny _ _ (call (Value.ref 349) _) _ _ _)); (fail_if_success (with_reducible show wpAny _ _ (call (Value.ref 356) _) _ _ _)); (fail_if_success (with_reducible show wpAny _ _ (call (Value.ref 128) _) _ _ _)); (fail_if_success (with_reducible show wpAny _ _ (call (Value.ref 149) _) _ _ _)); (fail_if_success (with_reducible show wpAny _ _ (call (Value.ref 85) _) _ _ _)); (fail_if_success (with_reducible show wpAny _ _ (call (Value.ref 107) _) _ _ _)); (fail_if_success (with_reducible show wpAny _ _ (compareOp CmpOp.NotEq (Value.ref _) (Value.ref _)) _ _ _)); (fail_if_success (with_reducible show wpAny _ _ (subscriptTail _ _ (Value.ref _) (Value.int _ _)) _ _ _)); (fail_if_success (with_reducible show wpAny _ _ (setItem _ _ _) _ _ _)); walk1) | ((fail_if_success (with_reducible show wpAny _ _ (call (Value.ref 349) _) _ _ _)); (fail_if_success (with_reducible show wpAny _ _ (call (Value.ref 356) _) _ _ _)); (fail_if_success (with_reducible show wpAny _ _ (call (Value.ref 128) _) _ _ _)); (fail_if_success (with_reducible show wpAny _ _ (call (Value.ref 149) _) _ _ _)); (fail_if_success (with_reducible show wpAny _ _ (call (Value.ref 85) _) _ _ _)); (fail_if_success (with_reducible show wpAny _ _ (call (Value.ref 107) _) _ _ _)); (fail_if_success (with_reducible show wpAny _ _ (compareOp CmpOp.NotEq (Value.ref _) (Value.ref _)) _ _ _)); (fail_if_success (with_reducible show wpAny _ _ (subscriptTail _ _ (Value.ref _) (Value.int _ _)) _ _ _)); (fail_if_success (with_reducible show wpAny _ _ (setItem _ _ _) _ _ _)); dsimp only; walk1))
          all_goals (rename News _ _ _ _ => N2; rename Fr _ _ _ _ => F2; rename Deck _ => dk2)
          · refine vec_fin (nw := []) (c9 := c1) false hB.down F2 X (fun p hp => N2 p (by simp only [List.mem_cons, List.not_mem_nil, or_false] at hp ⊢; rcases hp with rfl | rfl | rfl | rfl <;> simp)) T rfl rfl (by omega) (by omega) l1K l1R l1N (fun _ h => nomatch h) (k1.mono fun _ _ z => .inl z) (by omega) ?_ ?_ dk2 (tab.mono fun _ _ z => .inl z) (fun _ _ => .inr TokR.ref) ret <;> simp only [D.size, D.depth] <;> omega
          · refine vec_fin (nw := []) (c9 := c1) true hB.down F2 X (fun p hp => N2 p (by simp only [List.mem_cons, List.not_mem_nil, or_false] at hp ⊢; rcases hp with rfl | rfl | rfl | rfl <;> simp)) T rfl rfl (by omega) (by omega) l1K l1R l1N (fun _ h => nomatch h) (k1.mono fun _ _ z => .inl z) (by omega) ?_ ?_ dk2 (tab.mono fun _ _ z => .inl z) (fun _ _ => .inr TokR.ref) ret <;> simp only [D.size, D.depth] <;> omega
theorem NearS.le {w : World} {m n : Nat} (H : NearS w n) (h : m ≤ n) : NearS w m := fun lt => H (Nat.lt_of_lt_of_le lt h)
theorem near_all {w : World} (n : Nat) : NearS w n := by
  induction n with
  | zero => exact fun lt => absurd lt (Nat.not_lt_zero _)
  | succ n ih => exact fun lt => near_step (NearS.le @ih (Nat.le_of_lt_succ lt))
end T16X

open PySem PySem.W PySem.Calls PyProof.Rows in
theorem rstT17 {M : Model} {A : Around} {env : Env} {Q : Flow → Shared → Prop} {E : Value → Shared → Prop} {s : Shared} (h : Q Flow.next s) : wpAny M A (execs [] env) Q E s := by
  w_top off
  first | (walk1; exact h) | exact wpAny_execs_nil h
section T17X
open PySem PySem.W PySem.Calls PyProof.Rows
set_option Elab.async false
set_option maxRecDepth 100000
open PyProof.Rows.LCg
set_option maxHeartbeats 8000000 in
theorem deck_spec {w : World} {outer : List Env} {s : Shared} {dp un : Nat} {gd : Option (List Code)} {x : Addr} {vs : List Value} {ns : List Int} {Q E : Value → Shared → Prop}
    (G : Gd w [] outer s.heap) (hx : s.heap.IsList x vs.toArray) (hi : IntsAre vs ns) (hl : ns.length ≤ 63) (hdp : dp + 4 < recursionLimit) (hun : un + 200 < cLine)
    (ret : ∀ K oK h' tk', h'.get? K = some oK → s.heap.get? K = none → Deck oK → Frame [] s.heap h' → Q (.ref K) { s with heap := h', toks := tk' }) :
    wpAny (model PySem.Challenge.rw_np0028_01.row.prog w) (Ar dp un gd outer) (call (.ref 332) [.ref x]) Q E s := by
  have hxl : (hideAll s.heap []).IsList x vs.toArray := hx.at fun o e => hideAll_get [] e (fun h => nomatch h)
  refine wpAny_call ?_
  refine enter (binds := [(Str.ofString "script", .ref x)]) G (by omega) (by k_is) (by k_is) (BindsTo.of_eq rfl) (locs rfl) rfl rfl rfl (by decide) ?_
  intro base p loose mean mg mb h₁ tk₁ F hN B T
  have X := G.X
  have N := hN [] (fun _ hq => nomatch hq)
  clear hN B
  try k_fold
  k_steps
  rename IntsAre _ (List.map _ _) => hI8
  rename (List.take 16 ns).length = _ => hC
  refine ret _ _ _ _ (News.get (by k_asm) (by k_mem)) (news_none (by k_asm) (by k_mem)) ⟨_, _, _, rfl, hI8, ?_, ?_⟩ (Frame.of_Fr (by k_asm))
  · intro k hk
    obtain ⟨q, _, rfl⟩ := List.mem_map.mp hk
    exact Int.fmod_nonneg_of_pos _ (by decide)
  · rw [List.length_map, hC]; omega
theorem gd0 {w : World} {A : Around} {outer : List Env} {W : List Addr} {g h base : Heap} {L : Addr} {m mg mb : Str → Option Value} {env : Env} {p : Program} {loose : List Str} {mean : ExcName → Option Value}
    (B : Below A base outer g) (T : Top p loose mean mg mb g) (X : (hd.heap_1 w.params).In g) (F : Fr g L h m) (hW : ∀ a ∈ W, a ≠ L ∧ g.get? a = none) (hf : env.frame = some L := by rfl) (hk : env.scope.kind = .function := by rfl) : Gd w W (env :: outer) h := by
  have st : g.StaysIn (hideAll h W) := fun b o e => hideAll_get W (F.keep b o e) fun q => by rw [(hW b q).2] at e; cases e
  obtain ⟨-, h1, h2⟩ := B
  refine ⟨⟨base, p, loose, mean, mg, mb, fun b o e => st b o (h1 b o e), ?_, T.keeps st⟩, X.keeps st⟩
  obtain ⟨oL, es, ep, hL, hLd, -, -⟩ := F.ns
  refine ⟨by rw [hk]; decide, ⟨L, oL, hf, ?_, hideAll_get W hL fun q => (hW L q).1 rfl, fun vs => by rw [hLd]; exact fun e => by cases e⟩, h2.of_keeps fun b o e _ => ⟨o, st b o e, rfl⟩⟩
  cases q : base.get? L with
  | none => rfl
  | some o => exact absurd (Nat.lt_of_lt_of_le (Heap.lt_size (h1 L o q)) F.above) (Nat.lt_irrefl _)
theorem keepF {g h h' : Heap} {L : Addr} {m : Str → Option Value} {W : List Addr} (F : Fr g L h m) (fr : Frame W h h') (hW : ∀ a ∈ W, a ≠ L ∧ g.get? a = none) : Fr g L h' m := by
  obtain ⟨oL, es, ep, hL', r⟩ := F.ns
  exact ⟨⟨oL, es, ep, fr _ _ (fun q => (hW _ q).1 rfl) hL', r⟩, fun b o e => fr _ _ (fun q => by rw [(hW _ q).2] at e; cases e) (F.keep b o e), F.above⟩
theorem keepN {g h h' : Heap} {L : Addr} {W : List Addr} {news : List (Addr × Obj)} (N : News g L h news) (fr : Frame W h h') : ∀ p ∈ news, p.1 ∉ W → h'.get? p.1 = some p.2 ∧ p.1 ≠ L ∧ g.get? p.1 = none := fun p hp q => ⟨fr _ _ q (N p hp).1, (N p hp).2⟩
theorem newN {g h h' : Heap} {L a : Addr} {o : Obj} {m : Str → Option Value} (F : Fr g L h m) (h1 : h'.get? a = some o) (h0 : h.get? a = none) : h'.get? a = some o ∧ a ≠ L ∧ g.get? a = none := by
  refine ⟨h1, ?_, ?_⟩
  · intro q
    obtain ⟨oL, es, ep, hL', r⟩ := F.ns
    rw [q, hL'] at h0; cases h0
  · cases q : g.get? a with
    | none => rfl
    | some o => rw [F.keep _ _ q] at h0; cases h0
theorem news_cons {g h : Heap} {L a : Addr} {o : Obj} {l : List (Addr × Obj)} (h1 : h.get? a = some o ∧ a ≠ L ∧ g.get? a = none) (N : News g L h l) : News g L h ((a, o) :: l) := fun p hp => by
  rcases List.mem_cons.mp hp with rfl | hp
  · exact h1
  · exact N p hp
abbrev lk0 (g : Heap) (a : Addr) (o : Obj) : Prop := g.get? a = some o
def TabC (g : Heap) (ps : Array Value) (rest : List (Addr × Obj)) : Prop :=
  ps = #[] ∨ ∃ c' oc vs t, ps = #[rawInt 96, rawInt 32, .ref c'] ∧ c' ≠ 245 ∧ LK (lk0 g) rest c' oc ∧ oc.data = .fields vs ∧ vs[1]? = some (.str (Str.ofString "equal_including.<locals>.<lambda>") t)
theorem TabC.ok {g h : Heap} {L : Addr} {m : Str → Option Value} {ps : Array Value} {rest : List (Addr × Obj)} (F : Fr g L h m) (N : News g L h rest) (e5 : h.get? 245 = some (tabObj ps)) (c : TabC g ps rest) : TabOk h := by
  refine ⟨ps, e5, c.imp id ?_⟩
  rintro ⟨c', oc, vs, t, e, ne, l, d, z⟩
  exact ⟨c', oc, vs, t, e, ne, l.elim (fun q => F.keep _ _ q) fun q => (N _ q).1, d, z⟩
def Sit (w : World) (g : Heap) (K R Nm tb tw : Addr) (news : List (Addr × Obj)) : Prop :=
  ∃ ps oK oR oN nw, news = (245, tabObj ps) :: (K, oK) :: (R, oR) :: (Nm, oN) :: nw ∧ Deck oK ∧ Tab w (LK (lk0 g) nw) oR oN ∧ Wd w (LK (lk0 g) nw) K R Nm tb tw ∧ TabC g ps nw ∧ (∀ p ∈ nw, p.1 ∉ [245, K, R, Nm]) ∧ @Ne Nat 245 K ∧ @Ne Nat 245 R ∧ @Ne Nat 245 Nm
set_option maxHeartbeats 8000000 in
theorem fresh_law {w : World} {outer : List Env} {s : Shared} {dp un : Nat} {gd : Option (List Code)} {env : Env} {g base : Heap} {L : Addr} {m mg mb : Str → Option Value} {p : Program} {loose : List Str} {mean : ExcName → Option Value} {D K R Nm tb dT : Addr} {oT oK oN : Obj} {t1 t2 t : Tok} {nm : Str} {kvs : List (Str × Value)} {Q E : Value → Shared → Prop}
    (B : Below (Ar dp un gd outer) base outer g) (T : Top p loose mean mg mb g) (X : (hd.heap_1 w.params).In g) (F : Fr g L s.heap m)
    (N : News g L s.heap [(D, oT), (Nm, oN), (R, PySem.W.listOf #[.ref 64, .ref 67] 0), (tb, instObj 323 dT), (dT, dictOf [ent w "rows" t1 (.ref R), ent w "names" t2 (.ref Nm)] 2), (K, oK), (245, tabObj #[])])
    (hdict : oN.IsDictOf (PySem.strKind PySem.Challenge.rw_np0028_01.row.prog w) kvs) (hk : kvs = [(Str.ofString "nil", .ref 64), (Str.ofString "t", .ref 67)]) (lo : (Nm == sysModules) = false) (dk : Deck oK)
    (n1 : @Ne Nat K R) (n2 : @Ne Nat K Nm) (n3 : @Ne Nat R Nm) (n4 : @Ne Nat tb R) (n5 : @Ne Nat dT R) (n6 : @Ne Nat 245 K) (n7 : @Ne Nat 245 R) (n8 : @Ne Nat 245 Nm) (n9 : @Ne Nat tb K) (n10 : @Ne Nat dT K) (n11 : @Ne Nat tb Nm) (n12 : @Ne Nat dT Nm) (n13 : @Ne Nat tb 245) (n14 : @Ne Nat dT 245)
    (hf : env.frame = some L) (hke : env.scope.kind = .function) (hdp : dp + 1 + 4 < recursionLimit) (hun : un + 3 + 200 < cLine)
    (ret : ∀ tw news h' tk' R' Nm' tb', tb' = tb → Sit w g K R' Nm' tb' tw news → News g L h' news → Fr g L h' m → Q (.ref tw) { s with heap := h', toks := tk' }) :
    wpAny (model PySem.Challenge.rw_np0028_01.row.prog w) ((Ar dp un gd outer).deeper env) (call (.ref 285) [.ref tb, .str nm t]) Q E s := by
  subst hk
  have gR := (N (R, _) (by k_mem)).2
  have hW : ∀ a ∈ [R], a ≠ L ∧ g.get? a = none := fun a ha => by rw [List.mem_singleton] at ha; subst ha; exact gR
  have offT : ∀ p ∈ [(tb, instObj 323 dT), (dT, dictOf [ent w "rows" t1 (.ref R), ent w "names" t2 (.ref Nm)] 2)], p.1 ∉ [R] := fun p hp q => by
    rw [List.mem_singleton] at q
    simp only [List.mem_cons, List.not_mem_nil, or_false] at hp
    rcases hp with rfl | rfl
    · exact n4 q
    · exact n5 q
  refine fresh_spec (lk := LK (lk0 g) [(tb, instObj 323 dT), (dT, dictOf [ent w "rows" t1 (.ref R), ent w "names" t2 (.ref Nm)] 2)]) (k := 2) (gd0 B T X F hW hf hke) (lkW F N (fun _ _ e => e) (fun p hp => ?_) offT (fun a ha => (hW a ha).2)) ⟨dT, t1, t2, .inr List.mem_cons_self, .inr (List.mem_cons_of_mem _ List.mem_cons_self)⟩ (N (R, _) (by k_mem)).1 ⟨[.ref 64, .ref 67], 0, rfl, by decide⟩ (by omega) hdp hun ?_
  · simp only [List.mem_cons, List.not_mem_nil, or_false] at hp ⊢
    rcases hp with rfl | rfl <;> simp
  intro a nw es n o' h' tk' hB hnw rw' eR fr
  subst hnw
  have F' := keepF F fr hW
  have k1 := keepN N fr
  have b1 := newN F (hB (a, instObj 58 n) List.mem_cons_self).1 (hB (a, instObj 58 n) List.mem_cons_self).2
  have b2 := newN F (hB (n, dictOf es 2) (List.mem_cons_of_mem _ List.mem_cons_self)).1 (hB (n, dictOf es 2) (List.mem_cons_of_mem _ List.mem_cons_self)).2
  have nb : ∀ x o, (x, o) ∈ [(D, oT), (Nm, oN), (R, PySem.W.listOf #[.ref 64, .ref 67] 0), (tb, instObj 323 dT), (dT, dictOf [ent w "rows" t1 (.ref R), ent w "names" t2 (.ref Nm)] 2), (K, oK), (245, tabObj #[])] → @Ne Nat a x ∧ @Ne Nat n x := by
    intro x o hx
    have := (N _ hx).1
    refine ⟨fun q => ?_, fun q => ?_⟩
    · have z := (hB (a, instObj 58 n) List.mem_cons_self).2
      rw [show a = x from q] at z; rw [z] at this; cases this
    · have z := (hB (n, dictOf es 2) (List.mem_cons_of_mem _ List.mem_cons_self)).2
      rw [show n = x from q] at z; rw [z] at this; cases this
  refine ret a ((245, tabObj #[]) :: (K, oK) :: (R, o') :: (Nm, oN) :: [(tb, instObj 323 dT), (dT, dictOf [ent w "rows" t1 (.ref R), ent w "names" t2 (.ref Nm)] 2), (a, instObj 58 n), (n, dictOf es 2)]) h' tk' R Nm tb rfl ⟨#[], oK, o', oN, _, rfl, dk, ⟨0, rw', _, hdict, .none⟩, ⟨⟨dT, t1, t2, .inr (by simp), .inr (by simp)⟩, ⟨n, es, 2, .inr (by simp), .inr (by simp)⟩, ⟨_, _, _, .inl (X _ _ (by k_is)), .inl (X _ _ (by k_is))⟩, n1, n2, n3, lo⟩, .inl rfl, ?_, n6, n7, n8⟩ ?_ F'
  · intro p hp
    simp only [List.mem_cons, List.not_mem_nil, or_false] at hp ⊢
    have w1 := nb 245 (tabObj #[]) (by simp)
    have w2 := nb K oK (by simp)
    have w3 := nb R (PySem.W.listOf #[.ref 64, .ref 67] 0) (by simp)
    have w4 := nb Nm oN (by simp)
    rcases hp with rfl | rfl | rfl | rfl <;> (rintro (h | h | h | h) <;> revert h <;> dsimp only <;> (intro h; first | exact n4 h | exact n5 h | exact n9 h | exact n10 h | exact n11 h | exact n12 h | exact n13 h | exact n14 h | exact w1.1 h | exact w1.2 h | exact w2.1 h | exact w2.2 h | exact w3.1 h | exact w3.2 h | exact w4.1 h | exact w4.2 h))
  · intro p hp
    simp only [List.mem_cons, List.not_mem_nil, or_false] at hp
    rcases hp with rfl | rfl | rfl | rfl | rfl | rfl | rfl | rfl
    · exact k1 _ (by simp) (by simpa using n7)
    · exact k1 _ (by simp) (by simpa using n1)
    · exact ⟨eR, gR⟩
    · exact k1 _ (by simp) (by simpa using n3.symm)
    · exact k1 _ (by simp) (by simpa using n4)
    · exact k1 _ (by simp) (by simpa using n5)
    · exact b1
    · exact b2
theorem iter_J {prog : Program} {w : World} {A : Around} {E : Value → Shared → Prop} {s : Shared} {env : Env} {h₀ : Heap} {x : Str} {body : List Stmt} {Q : Flow → Shared → Prop} {r : Addr} {t₀ u₀ v₀ : Tok} {n : Nat} {m₀ : Str → Option Value} {news₀ : List (Addr × Obj)} (J : Nat → (Str → Option Value) → List (Addr × Obj) → Prop)
    (hh : A.handled = none) (hr : IsRange s.heap r 0 n 1 t₀ u₀ v₀) (hs : Builtin.Range.small 0 (n : Int) 1 = true) (hn : Builtin.Range.rangeSize 0 (n : Int) 1 = (n : Int)) (F : Fr h₀ env.locals s.heap m₀) (N : News h₀ env.locals s.heap news₀) (j0 : J 0 m₀ news₀)
    (step : ∀ I a b i m news t h tk, J i m news → i < n → (∀ p ∈ news, p.1 ≠ I) → Fr h₀ env.locals h (fun y => if y = x then some (.int (i : Nat) t) else m y) → News h₀ env.locals h ((I, PySem.W.krsIt a b 1) :: news) →
      wpAny (model prog w) A (execs body env) (PySem.W.UnrPost h₀ env.locals { s with heap := h, toks := tk } I (PySem.W.krsIt a b 1) (J (i + 1)) Q) E { s with heap := h, toks := tk })
    (fin : ∀ m news h tk, J n m news → Fr h₀ env.locals h m → News h₀ env.locals h news → Q .next { s with heap := h, toks := tk }) :
    wpAny (model prog w) A (pyIter (.ref r)) (fun it s₂ => LoopAtV prog w A h₀ env x body Q E it s₂) E s := by
  have key : ∀ (I : Addr) (k i : Nat) (m : Str → Option Value) (news : List (Addr × Obj)), i + k = n → J i m news → (∀ p ∈ news, p.1 ≠ I) → PySem.W.KrsRest prog w A E h₀ env x body Q s I 0 1 n k i m news := by
    intro I k
    induction k with
    | zero => intro i m news e j _; exact .zero fun h tk F N => fin m news h tk (by rw [show i = n by omega] at j; exact j) F N
    | succ k ih =>
      intro i m news e j off
      refine .succ (v := (i : Int)) (by omega) fun t h tk F N => ?_
      refine wpAny_mono (step I _ _ i m news t h tk j (by omega) off F N) (fun f s2 p => ?_) (fun _ _ e => e)
      have q : PySem.W.UnrEnd h₀ env.locals { s with heap := h, toks := tk } I (PySem.W.krsIt (0 + ((i + 1 : Nat) : Int) * 1) ((n : Int) - ((i + 1 : Nat) : Int)) 1) (J (i + 1)) s2 → PySem.W.UnrEnd h₀ env.locals { s with heap := h, toks := tk } I (PySem.W.krsIt (0 + ((i + 1 : Nat) : Int) * 1) ((n : Int) - ((i + 1 : Nat) : Int)) 1) (PySem.W.KrsRest prog w A E h₀ env x body Q s I 0 1 n k (i + 1)) s2 := by
        rintro ⟨h', tk', m', news', e', F', N', ho, r⟩
        exact ⟨h', tk', m', news', e', F', N', ho, ih (i + 1) m' news' (by omega) r ho⟩
      cases f with
      | ret v => exact p
      | brk => exact p
      | next => exact q p
      | cont => exact q p
  refine PySem.W.krs_iter (n := n) hh hr hs hn F N fun I off => key I n 0 m₀ news₀ (by omega) j0 fun p hp q => by have := off p hp; rw [q] at this; exact Nat.lt_irrefl _ this
theorem after_build {g h h' : Heap} {L I K R Nm : Addr} {m : Str → Option Value} {it o5 oK oR oN oK' oR' oN' : Obj} {nw nw2 : List (Addr × Obj)} (F : Fr g L h m) (N : News g L h ((I, it) :: (245, o5) :: (K, oK) :: (R, oR) :: (Nm, oN) :: nw)) (fr : Frame [K, R, Nm] h h') (hB : Born h h' nw2)
    (nI : I ∉ [K, R, Nm]) (n5 : (245 : Addr) ∉ [K, R, Nm]) (off : ∀ p ∈ nw, p.1 ∉ [K, R, Nm]) (eK : h'.get? K = some oK') (eR : h'.get? R = some oR') (eN : h'.get? Nm = some oN') :
    Fr g L h' m ∧ News g L h' ((I, it) :: (245, o5) :: (K, oK') :: (R, oR') :: (Nm, oN') :: (nw2 ++ nw)) := by
  have hW : ∀ a ∈ [K, R, Nm], a ≠ L ∧ g.get? a = none := by
    intro a ha
    simp only [List.mem_cons, List.not_mem_nil, or_false] at ha
    rcases ha with rfl | rfl | rfl
    · exact (N (a, oK) (by simp)).2
    · exact (N (a, oR) (by simp)).2
    · exact (N (a, oN) (by simp)).2
  refine ⟨keepF F fr hW, fun p hp => ?_⟩
  have k := keepN N fr
  rcases List.mem_cons.mp hp with rfl | hp
  · exact k _ (by simp) nI
  rcases List.mem_cons.mp hp with rfl | hp
  · exact k _ (by simp) n5
  rcases List.mem_cons.mp hp with rfl | hp
  · exact ⟨eK, hW _ (by simp)⟩
  rcases List.mem_cons.mp hp with rfl | hp
  · exact ⟨eR, hW _ (by simp)⟩
  rcases List.mem_cons.mp hp with rfl | hp
  · exact ⟨eN, hW _ (by simp)⟩
  rcases List.mem_append.mp hp with hp | hp
  · exact newN F (hB p hp).1 (hB p hp).2
  · exact k _ (by simp [hp]) (off p hp)
theorem after_draw {g h h' : Heap} {L I K R Nm : Addr} {m : Str → Option Value} {it o5 oK oR oN oK' : Obj} {nw : List (Addr × Obj)} (F : Fr g L h m) (N : News g L h ((I, it) :: (245, o5) :: (K, oK) :: (R, oR) :: (Nm, oN) :: nw)) (fr : Frame [K] h h')
    (nI : I ∉ [K, R, Nm]) (n5 : (245 : Addr) ∉ [K, R, Nm]) (nR : @Ne Nat K R) (nN : @Ne Nat K Nm) (off : ∀ p ∈ nw, p.1 ∉ [K, R, Nm]) (eK : h'.get? K = some oK') :
    Fr g L h' m ∧ News g L h' ((I, it) :: (245, o5) :: (K, oK') :: (R, oR) :: (Nm, oN) :: nw) := by
  have hK := (N (K, oK) (by simp)).2
  refine ⟨keepF F fr (by intro a ha; rw [List.mem_singleton] at ha; subst ha; exact hK), fun p hp => ?_⟩
  have k := keepN N fr
  have up : ∀ {a : Addr}, a ∉ [K, R, Nm] → a ∉ [K] := fun h q => h (by rw [List.mem_singleton] at q; subst q; exact List.mem_cons_self)
  rcases List.mem_cons.mp hp with rfl | hp
  · exact k _ (by simp) (up nI)
  rcases List.mem_cons.mp hp with rfl | hp
  · exact k _ (by simp) (up n5)
  rcases List.mem_cons.mp hp with rfl | hp
  · exact ⟨eK, hK⟩
  rcases List.mem_cons.mp hp with rfl | hp
  · exact k _ (by simp) (fun q => nR (List.mem_singleton.mp q).symm)
  rcases List.mem_cons.mp hp with rfl | hp
  · exact k _ (by simp) (fun q => nN (List.mem_singleton.mp q).symm)
  · exact k _ (by simp [hp]) (up (off p hp))
theorem sitW {g h : Heap} {L I K R Nm : Addr} {it o5 oK oR oN : Obj} {nw : List (Addr × Obj)} (N : News g L h ((I, it) :: (245, o5) :: (K, oK) :: (R, oR) :: (Nm, oN) :: nw)) : ∀ a ∈ [K, R, Nm], a ≠ L ∧ g.get? a = none := by
  intro a ha
  simp only [List.mem_cons, List.not_mem_nil, or_false] at ha
  rcases ha with rfl | rfl | rfl
  · exact (N (a, oK) (by simp)).2
  · exact (N (a, oR) (by simp)).2
  · exact (N (a, oN) (by simp)).2
theorem sitT {g h : Heap} {L : Addr} {a b c d e : Addr × Obj} {nw : List (Addr × Obj)} (_ : News g L h (a :: b :: c :: d :: e :: nw)) : ∀ p ∈ nw, p ∈ a :: b :: c :: d :: e :: nw := fun p hp => by
  iterate 5 refine List.mem_cons_of_mem _ ?_
  exact hp
theorem sitA {g h : Heap} {L I K R Nm : Addr} {it o5 oK oR oN : Obj} {nw : List (Addr × Obj)} (N : News g L h ((I, it) :: (245, o5) :: (K, oK) :: (R, oR) :: (Nm, oN) :: nw)) : ∀ a ∈ [I, 245, K, R, Nm], ∃ o, h.get? a = some o := by
  intro a ha
  simp only [List.mem_cons, List.not_mem_nil, or_false] at ha
  rcases ha with rfl | rfl | rfl | rfl | rfl
  · exact ⟨_, (N (a, it) (by simp)).1⟩
  · exact ⟨_, (N (245, o5) (by simp)).1⟩
  · exact ⟨_, (N (a, oK) (by simp)).1⟩
  · exact ⟨_, (N (a, oR) (by simp)).1⟩
  · exact ⟨_, (N (a, oN) (by simp)).1⟩
theorem off_app {h h' : Heap} {W : List Addr} {nw nw1 : List (Addr × Obj)} (hB : Born h h' nw1) (al : ∀ a ∈ W, ∃ o, h.get? a = some o) (off : ∀ p ∈ nw, p.1 ∉ W) : ∀ p ∈ nw1 ++ nw, p.1 ∉ W := fun p hp => by
  rcases List.mem_append.mp hp with hp | hp
  · exact near_off hB al p hp
  · exact off p hp
theorem off3 {I K R Nm : Addr} {nw : List (Addr × Obj)} (off : ∀ p ∈ nw, p.1 ∉ [I, 245, K, R, Nm]) : ∀ p ∈ nw, p.1 ∉ [K, R, Nm] := fun p hp q => off p hp (List.mem_cons_of_mem _ (List.mem_cons_of_mem _ q))
theorem lk_app {lk : Addr → Obj → Prop} {nw nw1 : List (Addr × Obj)} : ∀ a o, LK (LK lk nw) nw1 a o → LK lk (nw1 ++ nw) a o := by
  rintro a o ((z | z) | z)
  · exact .inl z
  · exact .inr (List.mem_append_right _ z)
  · exact .inr (List.mem_append_left _ z)
structure Nd (I K R Nm : Addr) : Prop where
  i : I ∉ [K, R, Nm]
  f : (245 : Addr) ∉ [K, R, Nm]
  kr : @Ne Nat K R
  kn : @Ne Nat K Nm
theorem law_build {g h h' : Heap} {L I K R Nm : Addr} {m : Str → Option Value} {it o5 oK oR oN oK' oR' oN' : Obj} {nw nw1 : List (Addr × Obj)} (F : Fr g L h m) (N : News g L h ((I, it) :: (245, o5) :: (K, oK) :: (R, oR) :: (Nm, oN) :: nw)) (nd : Nd I K R Nm) (off : ∀ p ∈ nw, p.1 ∉ [I, 245, K, R, Nm])
    (hB : Born h h' nw1) (fr : Frame [K, R, Nm] h h') (eK : h'.get? K = some oK') (eR : h'.get? R = some oR') (eN : h'.get? Nm = some oN') :
    Fr g L h' m ∧ News g L h' ((I, it) :: (245, o5) :: (K, oK') :: (R, oR') :: (Nm, oN') :: (nw1 ++ nw)) ∧ ∀ p ∈ nw1 ++ nw, p.1 ∉ [I, 245, K, R, Nm] :=
  let ⟨a, b⟩ := after_build F N fr hB nd.i nd.f (off3 off) eK eR eN
  ⟨a, b, off_app hB (sitA N) off⟩
theorem law_lk {g h : Heap} {L I K R Nm : Addr} {m : Str → Option Value} {it o5 oK oR oN : Obj} {nw : List (Addr × Obj)} (F : Fr g L h m) (N : News g L h ((I, it) :: (245, o5) :: (K, oK) :: (R, oR) :: (Nm, oN) :: nw)) (off : ∀ p ∈ nw, p.1 ∉ [I, 245, K, R, Nm]) :
    ∀ a o, LK (lk0 g) nw a o → (hideAll h [K, R, Nm]).get? a = some o :=
  lkW F N (fun _ _ e => e) (sitT N) (off3 off) fun a ha => (sitW N a ha).2
theorem TabC.mono {g : Heap} {ps : Array Value} {nw nw' : List (Addr × Obj)} (h : ∀ p ∈ nw, p ∈ nw') (c : TabC g ps nw) : TabC g ps nw' := c.imp id fun ⟨c', oc, vs, t, a, b, l, d⟩ => ⟨c', oc, vs, t, a, b, l.imp id (h _), d⟩
def JP (w : World) (g : Heap) (L : Addr) (m : Str → Option Value) (I : Addr) (it : Obj) (ps : Array Value) (K R Nm : Addr) (nwA : List (Addr × Obj)) (v : Value) (s : Shared) (u : Value) (s' : Shared) : Prop :=
  ∃ e nw2 oK oR oN h' tk', s' = { s with heap := h', toks := tk' } ∧ Fr g L h' m ∧ News g L h' ((I, it) :: (245, tabObj ps) :: (K, oK) :: (R, oR) :: (Nm, oN) :: nw2) ∧ (∀ p ∈ nwA, p ∈ nw2) ∧ At w (LK (lk0 g) nw2) e u ∧ e.size ≤ 86 ∧ e.depth ≤ 12 ∧ Deck oK ∧ Tab w (LK (lk0 g) nw2) oR oN ∧ (∀ p ∈ nw2, p.1 ∉ [I, 245, K, R, Nm]) ∧ (u = v ∨ TokR (s.toks + 1) u tk')
theorem law_join {M : Model} {A : Around} {E : Value → Shared → Prop} {x : Sem Value} {Q : Value → Shared → Prop} {s : Shared} {w : World} {g : Heap} {L : Addr} {m : Str → Option Value} {I : Addr} {it : Obj} {ps : Array Value} {K R Nm : Addr} {oK oR oN : Obj} {nwA : List (Addr × Obj)} (v : Value) (F : Fr g L s.heap m) (_ : News g L s.heap ((I, it) :: (245, tabObj ps) :: (K, oK) :: (R, oR) :: (Nm, oN) :: nwA))
    (h1 : wpAny M A x (JP w g L m I it ps K R Nm nwA v s) E s) (h2 : ∀ u s', JP w g L m I it ps K R Nm nwA v s u s' → Q u s') : wpAny M A x Q E s := wpAny_mono h1 h2 fun _ _ e => e
theorem JP.intro {w : World} {g : Heap} {L : Addr} {m : Str → Option Value} {I : Addr} {it : Obj} {ps : Array Value} {K R Nm : Addr} {nwA : List (Addr × Obj)} {v : Value} {s : Shared} {u : Value} {e : D} {nw2 : List (Addr × Obj)} {oK oR oN : Obj} {h' : Heap} {tk' : Nat} (F : Fr g L h' m) (N : News g L h' ((I, it) :: (245, tabObj ps) :: (K, oK) :: (R, oR) :: (Nm, oN) :: nw2)) (hs : ∀ p ∈ nwA, p ∈ nw2) (ha : At w (LK (lk0 g) nw2) e u) (h1 : e.size ≤ 86) (h2 : e.depth ≤ 12) (dk : Deck oK) (tab : Tab w (LK (lk0 g) nw2) oR oN) (off : ∀ p ∈ nw2, p.1 ∉ [I, 245, K, R, Nm]) (tok : u = v ∨ TokR (s.toks + 1) u tk') :
    JP w g L m I it ps K R Nm nwA v s u { s with heap := h', toks := tk' } := ⟨e, nw2, oK, oR, oN, h', tk', rfl, F, N, hs, ha, h1, h2, dk, tab, off, tok⟩
theorem is_ints {M : Model} {A : Around} {E : Value → Shared → Prop} {s : Shared} {i j : Int} {t t' : Tok} {Q : Value → Shared → Prop} (h : i ≠ j) (h1 : t ≠ 0) (h2 : t' ≠ 0) (h3 : t ≠ t') (hQ : Q (.bool false) s) : wpAny M A (compareOp .Is (.int i t) (.int j t')) Q E s := by
  refine wpAny_of_eq (?_ : compareOp .Is (.int i t) (.int j t') = pure (.bool false)) hQ
  have e1 : (i == j) = false := by simpa using h
  have e2 : (t == 0) = false := by simpa using h1
  have e3 : (t' == 0) = false := by simpa using h2
  have e4 : (t == t') = false := by simpa using h3
  have e0 : isSame (.int i t) (.int j t') = (if (i == j) && smallInt i then isSame.cachedInt t t' else isSame.created (i == j) t t') := rfl
  have e5 : isSame.created false t t' = pure false := by
    unfold isSame.created
    rw [e2, e3, e4]
    rfl
  have e6 : isSame (.int i t) (.int j t') = pure false := by
    rw [e0, e1]
    exact e5
  show (isSame (.int i t) (.int j t') >>= fun b => pure (Value.bool b) : Sem Value) = _
  rw [e6]
  rfl
def TokP (x y : Value) : Prop := ∀ i t j t', x = .int i t → y = .int j t' → i ≠ j → t ≠ 0 ∧ t' ≠ 0 ∧ t ≠ t'
theorem TokP.symm {x y : Value} (h : TokP x y) : TokP y x := fun i t j t' a b c => let ⟨p, q, r⟩ := h j t' i t b a (Ne.symm c); ⟨q, p, Ne.symm r⟩
theorem is_dat {w : World} {A : Around} {E : Value → Shared → Prop} {s : Shared} {lk : Addr → Obj → Prop} {d e : D} {v u : Value} {Q : Value → Shared → Prop} (hlk : ∀ a o, lk a o → s.heap.get? a = some o) (hd : At w lk d v) (he : At w lk e u) (tp : TokP v u) (hn : (d.isInt && e.isInt) = true → d.same e = false)
    (h : Q (.bool (d.same e)) s) : wpAny (model PySem.Challenge.rw_np0028_01.row.prog w) A (compareOp .Is v u) Q E s := by
  cases x : d.isInt <;> cases y : e.isInt
  · obtain ⟨a, ha, rfl⟩ := hd.ref_of x
    obtain ⟨b, hb, rfl⟩ := he.ref_of y
    rw [same_ref ha hb] at h
    obtain ⟨Ca, da, ha⟩ := hd.obj ha
    obtain ⟨Cb, db, hb⟩ := he.obj hb
    exact is_refs (hlk _ _ ha) (hlk _ _ hb) (by simp) h
  · obtain ⟨a, ha, rfl⟩ := hd.ref_of x
    obtain ⟨j, t', rfl, rfl⟩ := he.int_of y
    rw [same_mixed (by rw [x, y]; decide)] at h
    exact wpAny_is_plain rfl h
  · obtain ⟨a, ha, rfl⟩ := he.ref_of y
    obtain ⟨j, t', rfl, rfl⟩ := hd.int_of x
    rw [same_mixed (by rw [x, y]; decide)] at h
    exact wpAny_is_plain rfl h
  · obtain ⟨j, t', rfl, rfl⟩ := he.int_of y
    obtain ⟨i, t, rfl, rfl⟩ := hd.int_of x
    have q := hn (by rw [x, y]; rfl)
    rw [q] at h
    have ne : i ≠ j := by
      intro e; subst e; simp [D.same] at q
    obtain ⟨h1, h2, h3⟩ := tp _ _ _ _ rfl rfl ne
    exact is_ints ne h1 h2 h3 h
local macro_rules | `(tactic| k_inst) => `(tactic| exact ⟨by assumption, rfl, rfl, by assumption⟩)
set_option maxHeartbeats 4000000 in
theorem isi_intH {w : World} {g : Heap} {L : Addr} {m : Str → Option Value} {s : Shared} {A : Around} {lk : Addr → Obj → Prop} {d : D} {v : Value} {Q E : Value → Shared → Prop} (F : Fr g L s.heap m) (X : (hd.heap_1 w.params).In g) (hlk : ∀ a o, lk a o → s.heap.get? a = some o) (hd : At w lk d v) (kt : ∀ tk, Q (.bool d.isInt) { s with toks := tk }) :
    wpAny (model PySem.Challenge.rw_np0028_01.row.prog w) A (call (.builtin "isinstance") [v, .type "int"]) Q E s := by
  cases d <;> simp only [At] at hd
  case int i => obtain ⟨t, rfl⟩ := hd; walk1; exact kt _
  case sym a => obtain ⟨rfl, da, es, n, h1, h2⟩ := hd; replace h1 := hlk _ _ h1; replace h2 := hlk _ _ h2; walk1; intros; exact kt _
  case text a cs sp => obtain ⟨rfl, da, c, n, vs, t1, t2, sv, h1, h2, -⟩ := hd; replace h1 := hlk _ _ h1; replace h2 := hlk _ _ h2; walk1; intros; exact kt _
  case cons a x y => obtain ⟨rfl, da, v1, v2, t1, t2, h1, h2, -⟩ := hd; replace h1 := hlk _ _ h1; replace h2 := hlk _ _ h2; walk1; intros; exact kt _
  case vec a k l =>
    obtain ⟨rfl, da, x, n, vs, t, h1, h2, -⟩ := hd
    replace h1 := hlk _ _ h1; replace h2 := hlk _ _ h2
    cases k <;> simp only [if_true, if_false, Bool.false_eq_true] at h1 <;> (walk1; intros; exact kt _)
local macro_rules | `(tactic| k_inst) => `(tactic| exact inst_g (by k_asm) (by k_asm) (by k_asm))
theorem items_J {prog : Program} {w : World} {A : Around} {E : Value → Shared → Prop} {s : Shared} {env : Env} {h₀ : Heap} {target : PySem.Expr} {body : List Stmt} {Q : Flow → Shared → Prop} {I2 : Addr} {keep : List (Addr × Obj)} (P : Addr → Prop) (J : (Str → Option Value) → List (Addr × Obj) → Prop) (hk : ∀ m n, J m n → SubL keep n)
    (step : ∀ T, P T → ∀ m news h tk (o' : Obj), o'.cls = .type "tuple_iterator" → J m news → (∀ p ∈ news, p.1 ≠ I2) → Fr h₀ env.locals h m → News h₀ env.locals h ((I2, o') :: news) →
      wpAny (model prog w) A (assign target env (.ref T)) (fun _ s₂ => wpAny (model prog w) A (execs body env) (PySem.W.UnrPostW h₀ env.locals { s with heap := h, toks := tk } [(I2, o')] J Q) E s₂) E { s with heap := h, toks := tk })
    (fin : ∀ m news h tk, J m news → Fr h₀ env.locals h m → News h₀ env.locals h news → Q .next { s with heap := h, toks := tk }) :
    ∀ (xs : List Addr) (m : Str → Option Value) (news : List (Addr × Obj)), (∀ T ∈ xs, P T) → J m news → (∀ p ∈ news, p.1 ≠ I2) → PySem.W.ItemsRest prog w A E h₀ env target body Q s [(I2, "tuple_iterator")] keep (xs.map fun T => .val (.ref T)) m news
  | [], m, news, _, j, _ => .zero fun h tk F N => fin m news h tk j F N
  | T :: xs, m, news, hp, j, hoff => .val fun h tk F => .cons fun o' hc => .nil fun N => by
    refine wpAny_mono (step T (hp T List.mem_cons_self) m news h tk o' hc j hoff F N) (fun _ s2 q => wpAny_mono q (fun f s3 p => ?_) fun _ _ e => e) fun _ _ e => e
    have key : PySem.W.UnrEndW h₀ env.locals { s with heap := h, toks := tk } [(I2, o')] J s3 → PySem.W.UnrEndW h₀ env.locals { s with heap := h, toks := tk } [(I2, o')] (fun m' n' => SubL keep n' ∧ PySem.W.ItemsRest prog w A E h₀ env target body Q s [(I2, "tuple_iterator")] keep (xs.map fun T => .val (.ref T)) m' n') s3 := by
      rintro ⟨h', tk', m', news', e', F', N', ho, r⟩
      exact ⟨h', tk', m', news', e', F', N', ho, hk _ _ r, items_J P J hk step fin xs m' news' (fun T h => hp T (List.mem_cons_of_mem _ h)) r (fun p hp => ho p hp _ List.mem_cons_self)⟩
    cases f with
    | ret v => exact p
    | brk => exact p
    | next => exact key p
    | cont => exact key p
def JBp (g : Heap) (L : Addr) (m : Str → Option Value) (news : List (Addr × Obj)) (s : Shared) (b : Bool) (u : Value) (s' : Shared) : Prop := u = .bool b ∧ ∃ h' tk', s' = { s with heap := h', toks := tk' } ∧ Fr g L h' m ∧ News g L h' news
theorem law_joinB {M : Model} {A : Around} {E : Value → Shared → Prop} {x : Sem Value} {Q : Value → Shared → Prop} {s : Shared} {g : Heap} {L : Addr} {m : Str → Option Value} {news : List (Addr × Obj)} (b : Bool) (_ : Fr g L s.heap m) (_ : News g L s.heap news)
    (h1 : wpAny M A x (JBp g L m news s b) E s) (h2 : ∀ h' tk', Fr g L h' m → News g L h' news → Q (.bool b) { s with heap := h', toks := tk' }) : wpAny M A x Q E s :=
  wpAny_mono h1 (fun _ _ ⟨e, h', tk', e2, F, N⟩ => by rw [e, e2]; exact h2 h' tk' F N) fun _ _ e => e
theorem JBp.intro {g : Heap} {L : Addr} {m : Str → Option Value} {news : List (Addr × Obj)} {s : Shared} {b b' : Bool} {h' : Heap} {tk' : Nat} (e : b' = b) (F : Fr g L h' m) (N : News g L h' news) : JBp g L m news s b (.bool b') { s with heap := h', toks := tk' } := ⟨by rw [e], h', tk', rfl, F, N⟩
theorem law_hl {g h : Heap} {L : Addr} {m : Str → Option Value} {news nw : List (Addr × Obj)} (F : Fr g L h m) (N : News g L h news) (sub : ∀ p ∈ nw, p ∈ news) : ∀ a o, LK (lk0 g) nw a o → h.get? a = some o := fun a o e => e.elim (F.keep a o) fun z => (N _ (sub _ z)).1
theorem law_fn {h : Heap} {lk : Addr → Obj → Prop} (hl : ∀ a o, lk a o → h.get? a = some o) : Fn lk := fun a o o' x y => Option.some.inj ((hl a o x).symm.trans (hl a o' y))
theorem mform {m : Str → Option Value} {a b c : Str} {x y z : Option Value} (h1 : m a = x) (h2 : m b = y) (h3 : m c = z) : m = fun n => if n = a then x else if n = b then y else if n = c then z else m n := by
  funext n
  by_cases q1 : n = a
  · rw [if_pos q1, q1, h1]
  by_cases q2 : n = b
  · rw [if_neg q1, if_pos q2, q2, h2]
  by_cases q3 : n = c
  · rw [if_neg q1, if_neg q2, if_pos q3, q3, h3]
  · rw [if_neg q1, if_neg q2, if_neg q3]
def J2 (g : Heap) (L4 : List (Addr × Obj)) (I K R Nm tb tw : Addr) (it oK oR oN : Obj) (nwB : List (Addr × Obj)) (m : Str → Option Value) (news : List (Addr × Obj)) : Prop :=
  ∃ ps nwX, news = L4 ++ (I, it) :: (245, tabObj ps) :: (K, oK) :: (R, oR) :: (Nm, oN) :: nwX ∧ TabC g ps nwX ∧ (∀ p ∈ nwB, p ∈ nwX) ∧ (∀ p ∈ nwX, p.1 ∉ [I, 245, K, R, Nm]) ∧ m (Str.ofString "twin") = some (.ref tw) ∧ m (Str.ofString "deck") = some (.ref K) ∧ m (Str.ofString "table") = some (.ref tb)
def PT (w : World) (lk : Addr → Obj → Prop) (L4 : List (Addr × Obj)) (T : Addr) : Prop :=
  ∃ x y d e, (T, (⟨.type "tuple", none, .seq #[x, y] 0, #[]⟩ : Obj)) ∈ L4 ∧ At w lk d x ∧ At w lk e y ∧ d.size ≤ 86 ∧ d.depth ≤ 12 ∧ e.depth ≤ 12 ∧ TokP x y
theorem endW {h₀ : Heap} {L : Addr} {s₁ : Shared} {its all : List (Addr × Obj)} {rest : (Str → Option Value) → List (Addr × Obj) → Prop} {h' : Heap} {tk : Nat} {m' : Str → Option Value} (F : Fr h₀ L h' m') (N : News h₀ L h' all) (news' : List (Addr × Obj)) (sub : ∀ p ∈ its ++ news', p ∈ all) (off : ∀ p ∈ news', ∀ q ∈ its, p.1 ≠ q.1) (r : rest m' news') : PySem.W.UnrEndW h₀ L s₁ its rest { s₁ with heap := h', toks := tk } :=
  ⟨h', tk, m', news', rfl, F, fun p hp => N p (sub p hp), off, r⟩
theorem room_a {n : Nat} (h : n ≤ 12) : (1 + claimMargin + 1) + n + 8 < recursionLimit := by
  have : (1 + claimMargin + 1) + 12 + 8 < recursionLimit := by decide
  omega
theorem room_b {n : Nat} (h : n ≤ 12) : (4 + 3) + 200 * n + 800 < cLine := by
  have : (4 + 3) + 200 * 12 + 800 < cLine := by decide
  omega
theorem law_mem {g h : Heap} {L : Addr} {p q a b c d : Addr × Obj} {l : List (Addr × Obj)} (hp : p ∈ [a, b, c, d]) (N : News g L h (q :: a :: b :: c :: d :: l)) : h.get? p.1 = some p.2 ∧ p.1 ≠ L ∧ g.get? p.1 = none := N p (by
  simp only [List.mem_cons, List.not_mem_nil, or_false] at hp ⊢
  rcases hp with h | h | h | h <;> simp [h])
theorem law_items {prog : Program} {w : World} {A : Around} {E : Value → Shared → Prop} {s : Shared} {env : Env} {target : PySem.Expr} {body : List Stmt} {Q : Flow → Shared → Prop} {I2 : Addr} {p0 : Addr × Obj} {L3 : List (Addr × Obj)} {g : Heap} {I K R Nm tb tw : Addr} {it oK oR oN : Obj} {nwB : List (Addr × Obj)} (wa : World)
    (step : ∀ T, PT wa (LK (lk0 g) nwB) (p0 :: L3) T → ∀ m news h tk (o' : Obj), o'.cls = .type "tuple_iterator" → J2 g (p0 :: L3) I K R Nm tb tw it oK oR oN nwB m news → (∀ p ∈ news, p.1 ≠ I2) → Fr g env.locals h m → News g env.locals h ((I2, o') :: news) →
      wpAny (model prog w) A (assign target env (.ref T)) (fun _ s₂ => wpAny (model prog w) A (execs body env) (PySem.W.UnrPostW g env.locals { s with heap := h, toks := tk } [(I2, o')] (J2 g (p0 :: L3) I K R Nm tb tw it oK oR oN nwB) Q) E s₂) E { s with heap := h, toks := tk })
    (fin : ∀ m news h tk, J2 g (p0 :: L3) I K R Nm tb tw it oK oR oN nwB m news → Fr g env.locals h m → News g env.locals h news → Q .next { s with heap := h, toks := tk })
    (xs : List Addr) (m : Str → Option Value) (news : List (Addr × Obj)) (hp : ∀ T ∈ xs, PT wa (LK (lk0 g) nwB) (p0 :: L3) T) (j : J2 g (p0 :: L3) I K R Nm tb tw it oK oR oN nwB m news) (hoff : ∀ p ∈ news, p.1 ≠ I2) : PySem.W.ItemsRest prog w A E g env target body Q s [(I2, "tuple_iterator")] [p0] (xs.map fun T => .val (.ref T)) m news :=
  items_J (PT wa (LK (lk0 g) nwB) (p0 :: L3)) (J2 g (p0 :: L3) I K R Nm tb tw it oK oR oN nwB) (fun m n j => by obtain ⟨_, _, e, _⟩ := j; subst e; exact And.intro List.mem_cons_self trivial) step fin xs m news hp j hoff
theorem ne_three {prog : Program} {w : World} {A : Around} {E : Value → Shared → Prop} {s : Shared} {g : Heap} {L a c : Addr} {news : List (Addr × Obj)} {b1 b2 b3 : Bool} {n n' : Nat} {Q : Value → Shared → Prop} (N : News g L s.heap news)
    (ha : (a, PySem.W.listOf #[.bool b1, .bool b2, .bool b3] n) ∈ news) (hc : (c, PySem.W.listOf #[.bool b1, .bool b2, .bool b3] n') ∈ news)
    (hu : A.units + 64 < cLine) (h : Q (.bool false) s) : wpAny (model prog w) A (compareOp .NotEq (.ref a) (.ref c)) Q E s := by
  refine ne_dataH (reads_list_at (N _ ha).1 rfl rfl (ReadsAll.cons (Reads.bool _) (ReadsAll.cons (Reads.bool _) (ReadsAll.cons (Reads.bool _) ReadsAll.nil))))
    (reads_list_at (N _ hc).1 rfl rfl (ReadsAll.cons (Reads.bool _) (ReadsAll.cons (Reads.bool _) (ReadsAll.cons (Reads.bool _) ReadsAll.nil)))) ?_ ?_ hu ?_
  · simp [SeqAt.shaped, PyData.canLay0, PyData.canLayAll0, PyData.depth, PyData.depthAll]
  · simp [SeqAt.shaped, PyData.canLay0, PyData.canLayAll0, PyData.depth, PyData.depthAll]
  · have : PyData.eqv (.list [.bool b1, .bool b2, .bool b3]) (.list [.bool b1, .bool b2, .bool b3]) = true := by simp [PyData.eqv, PyData.eqvAll]
    rw [this]; exact h
theorem law_g5 {g h : Heap} {L : Addr} {o : Obj} {news : List (Addr × Obj)} (N : News g L h news) (hm : ((245 : Addr), o) ∈ news) : ∀ a ∈ [(245 : Addr)], a ≠ L ∧ g.get? a = none := fun a ha => by
  rw [List.mem_singleton] at ha; subst ha; exact (N _ hm).2
theorem tabObj_inj {ps ps' : Array Value} (h : tabObj ps = tabObj ps') : ps = ps' := by
  injection h with _ _ e
  injection e
theorem law_tab {g h h' : Heap} {L : Addr} {ps7 : Array Value} {news nw : List (Addr × Obj)} (N : News g L h news) (hm : ((245 : Addr), tabObj ps7) ∈ news) (tb : TabOk2 h h') (tc : TabC g ps7 nw) :
    ∃ ps8 cN, h'.get? 245 = some (tabObj ps8) ∧ Born h h' cN ∧ TabC g ps8 (cN ++ nw) := by
  obtain ⟨ps, e, q | ⟨c', oc, vs, t, rfl, n, e2, d, z⟩⟩ := tb
  · have q2 := (N _ hm).1
    dsimp only at q2
    rw [q2] at q
    have q3 := tabObj_inj (Option.some.inj q)
    subst q3
    exact ⟨ps7, [], e, fun _ h => (nomatch h), tc⟩
  · refine ⟨_, [(c', oc)], e, fun p hp => by rw [List.mem_singleton] at hp; subst hp; exact ⟨e2, n⟩, .inr ⟨c', oc, vs, t, rfl, fun q => ?_, .inr List.mem_cons_self, d, z⟩⟩
    rw [q] at n
    have q2 := (N _ hm).1
    dsimp only at q2
    rw [q2] at n; cases n
theorem law_tail {g h : Heap} {L : Addr} {pre cN nw : List (Addr × Obj)} (N : News g L h (pre ++ nw)) (C : ∀ p ∈ cN, h.get? p.1 = some p.2 ∧ p.1 ≠ L ∧ g.get? p.1 = none) : News g L h (pre ++ (cN ++ nw)) := fun p hp => by
  rcases List.mem_append.mp hp with hp | hp
  · exact N p (List.mem_append_left _ hp)
  rcases List.mem_append.mp hp with hp | hp
  · exact C p hp
  · exact N p (List.mem_append_right _ hp)
local macro_rules | `(tactic| walk_at "call builtin:isinstance") => `(tactic| ((with_reducible show wpAny _ _ (call (Value.builtin _) [_, Value.type "int"]) _ _ _); refine' isi_intH ?k1 ?k2 ?k3 ?k4 ?_; (case k4 => assumption); (case k1 => k_asm); (case k2 => assumption); (case k3 => assumption); intro tk'))
set_option maxHeartbeats 8000000 in
theorem holds : PySem.Challenge.rw_np0028_01.Holds := hd (by
  k_go0
  all_goals try k_fold
  repeat' (first | k_unfold | ((fail_if_success (with_reducible show wpAny _ _ (call (Value.ref 332) _) _ _ _)); walk1) | ((fail_if_success (with_reducible show wpAny _ _ (call (Value.ref 332) _) _ _ _)); dsimp only; walk1))
  rename Fr _ _ _ _ => F1
  rename News _ _ _ _ => N1
  rename Frag.In _ _ => X1
  rename Below _ _ _ _ => B1
  rename Top topProg _ _ _ _ _ => T1
  rename IntsAre _ _ => hI
  rename ¬ _ < _ => hlen
  rename Heap.IsList (ghostOf _ _) _ _ => hxl
  generalize ghostOf _ _ = g at F1 N1 X1 B1 T1 codeHd hxl
  have eA : callerA = Ar (1 + claimMargin) 4 (some []) [] := rfl
  rw [eA] at B1 ⊢
  have z245 := (N1 (245, tabObj #[]) List.mem_cons_self).2
  refine deck_spec (gd0 B1 T1 X1 F1 (fun _ h => nomatch h)) (hxl.at fun o e => F1.keep _ o e) hI (by omega) (by decide) (by decide) ?_
  intro K oK h' tk' eK nK dk fr
  have F2 := keepF F1 fr (fun _ h => nomatch h)
  have N2 : News _ _ _ [(K, oK), (245, tabObj #[])] := news_cons (newN F1 eK nK) fun p hp => keepN N1 fr p hp (fun h => nomatch h)
  have n245 : @Ne Nat 245 K := fun q => by
    have z := (N1 (245, tabObj #[]) List.mem_cons_self).1
    rw [show (245 : Addr) = K from q] at z
    rw [nK] at z; cases z
  clear F1 N1 fr nK
  repeat' (first | k_unfold | ((fail_if_success (with_reducible show wpAny _ _ (call (Value.ref 332) _) _ _ _)); (fail_if_success (with_reducible show wpAny _ _ (call (Value.ref 285) _) _ _ _)); walk1) | ((fail_if_success (with_reducible show wpAny _ _ (call (Value.ref 332) _) _ _ _)); (fail_if_success (with_reducible show wpAny _ _ (call (Value.ref 285) _) _ _ _)); dsimp only; walk1))
  rename News _ _ _ _ => N3
  rename Fr _ _ _ _ => F3
  rename Obj.IsDictOf _ _ _ => hdict
  rename (_ == sysModules) = false => lo
  refine fresh_law B1 T1 X1 F3 N3 hdict rfl lo dk (by omega) (by omega) (by omega) (by omega) (by omega) (by omega) (by omega) (by omega) (by omega) (by omega) (by omega) (by omega) (by omega) (by omega) rfl rfl (by decide) (by decide) ?_
  intro tw news h' tk' R Nm tb etb sit N4 F4
  subst etb
  rename World => w
  repeat' (first | k_unfold | ((fail_if_success (with_reducible show wpAny _ _ (pyIter _) _ _ _)); walk1) | ((fail_if_success (with_reducible show wpAny _ _ (pyIter _) _ _ _)); dsimp only; walk1))
  rename IsRange _ _ _ _ _ _ _ _ => hr
  have hr' : IsRange _ _ (0:Int) (3:Int) 1 _ _ _ := hr
  clear hr
  rename News _ _ _ _ => N5
  rename Fr _ _ _ _ => F5
  refine iter_J (n := 3) (fun _ m news => Sit w g K R Nm tb tw news ∧ ∃ u : Str → Option Value, m = fun z => if z = Str.ofString "twin" then some (.ref tw) else if z = Str.ofString "deck" then some (.ref K) else if z = Str.ofString "table" then some (.ref tb) else u z) rfl hr' (show Builtin.Range.small (0:Int) ((3:Nat):Int) 1 = true by decide) (show Builtin.Range.rangeSize (0:Int) ((3:Nat):Int) 1 = ((3:Nat):Int) by decide) F5 N5 ⟨sit, _, rfl⟩ ?_ ?_
  rotate_left
  · intro m news h tk sit2 F N
    obtain ⟨sit2, u, rfl⟩ := sit2
    try clear N5 F5
    obtain ⟨ps, oK2, oR2, oN2, nw, rfl, -⟩ := sit2
    try k_unfold
    iterate 6 (try walk1)
    · refine goodW_bool F (by assumption) (raisesW_false ?_) ?_
      · wrow_none_raised
      · wrow_post
    · exact And.intro (GrownAt.of N List.mem_cons_self) trivial
  intro I ia ib i m news t1 h tk sit2 hi3 hI F N
  obtain ⟨⟨ps, oK2, oR2, oN2, nw, rfl, dk2, tab2, wd, tabC, off, h5K, h5R, h5N⟩, u, rfl⟩ := sit2
  try clear N5 F5 hr'
  have nd : Nd I K R Nm := by
    have i1 := hI (K, oK2) (by simp)
    have i2 := hI (R, oR2) (by simp)
    have i3 := hI (Nm, oN2) (by simp)
    dsimp only at i1 i2 i3
    refine ⟨?_, ?_, wd.KR, wd.KN⟩ <;> simp only [List.mem_cons, List.not_mem_nil, or_false]
    · rintro (h | h | h)
      · exact i1 h.symm
      · exact i2 h.symm
      · exact i3 h.symm
    · rintro (h | h | h)
      · exact h5K h
      · exact h5R h
      · exact h5N h
  have offI : ∀ p ∈ nw, p.1 ∉ [I, 245, K, R, Nm] := fun p hp q => by
    rcases List.mem_cons.mp q with q | q
    · exact hI p (by simp [hp]) q
    · exact off p hp q
  clear off
  have nI5 : @Ne Nat I 245 := fun q => hI (245, tabObj ps) (by simp) q.symm
  repeat' (first | k_unfold | ((fail_if_success (with_reducible show wpAny _ _ (call (Value.ref 349) _) _ _ _)); walk1) | ((fail_if_success (with_reducible show wpAny _ _ (call (Value.ref 349) _) _ _ _)); dsimp only; walk1))
  rename News _ _ _ _ => N2
  rename Fr _ _ _ _ => F2
  refine made_call (n := 3) (made_all 3) (gd0 B1 T1 X1 F2 (sitW N2)) (law_lk F2 N2 offI) wd (N2 (K, oK2) (by simp)).1 (N2 (R, oR2) (by simp)).1 (N2 (Nm, oN2) (by simp)).1 dk2 tab2 (by decide) (by decide) ?_
  intro d v nw1 oK3 oR3 oN3 h3 tk3 hB3 at3 sz3 dp3 dk3 tab3 eK3 eR3 eN3 fr3 tok3
  obtain ⟨F3, N3, off3⟩ := law_build F2 N2 nd offI hB3 fr3 eK3 eR3 eN3
  replace at3 := at3.mono lk_app
  replace tab3 := tab3.mono lk_app
  replace wd := wd.mono (lk' := LK (lk0 g) (nw1 ++ nw)) fun _ _ z => lk_app _ _ (.inl z)
  replace tabC := tabC.mono (nw' := nw1 ++ nw) fun p hp => List.mem_append_right _ hp
  clear F2 N2 hB3 eK3 eR3 eN3 fr3 dk2 tab2 offI hI
  generalize nw1 ++ nw = nwA at F3 N3 off3 at3 tab3 wd tabC
  have hv := at3.handed
  repeat' (first | k_unfold | ((fail_if_success (with_reducible show wpAny _ _ (eval (PySem.Expr.IfExp _ _ _ _) _) _ _ _)); walk1) | ((fail_if_success (with_reducible show wpAny _ _ (eval (PySem.Expr.IfExp _ _ _ _) _) _ _ _)); dsimp only; walk1))
  clear F3 N3
  rename News _ _ _ ((I, _) :: _) => N4
  rename Fr _ _ _ _ => F4
  refine law_join (w := w) v F4 N4 ?_ ?_
  · repeat' (first | k_unfold | ((fail_if_success (with_reducible show wpAny _ _ (call (Value.ref 339) _) _ _ _)); walk1) | ((fail_if_success (with_reducible show wpAny _ _ (call (Value.ref 339) _) _ _ _)); dsimp only; walk1))
    rename News _ _ _ ((I, _) :: _) => N5
    rename Fr _ _ _ _ => F5
    refine draw_specT (gd0 (W := [K]) B1 T1 X1 F5 (fun a ha => by rw [List.mem_singleton] at ha; subst ha; exact sitW N5 _ (by simp))) (N5 (K, oK3) (by simp)).1 dk3 (by omega) (by omega) (by decide) (by decide) ?_
    intro k9 t9 oK9 h9 tk9 p9 q9 dk9 eK9 fr9 lt9
    obtain ⟨F6, N6⟩ := after_draw F5 N5 fr9 nd.i nd.f nd.kr nd.kn (Mine.off3 off3) eK9
    clear F5 N5
    dsimp only at lt9
    repeat' (first | k_unfold | ((fail_if_success (with_reducible show wpAny _ _ (call (Value.ref 349) _) _ _ _)); (fail_if_success (with_reducible show wpAny _ _ (call (Value.ref 356) _) _ _ _)); walk1) | ((fail_if_success (with_reducible show wpAny _ _ (call (Value.ref 349) _) _ _ _)); (fail_if_success (with_reducible show wpAny _ _ (call (Value.ref 356) _) _ _ _)); dsimp only; walk1))
    · rename News _ _ _ ((I, _) :: _) => N7
      rename Fr _ _ _ _ => F7
      refine near_call (near_all (d.depth + 1)) (Nat.lt_succ_self _) (gd0 B1 T1 X1 F7 (sitW N7)) (law_lk F7 N7 off3) wd (N7 (K, oK9) (by simp)).1 (N7 (R, oR3) (by simp)).1 (N7 (Nm, oN3) (by simp)).1 dk9 tab3 at3 (Nat.lt_of_le_of_lt (Nat.add_le_add_left dp3 _) (by decide)) (Nat.lt_of_le_of_lt (Nat.add_le_add_left (Nat.mul_le_mul_left _ dp3) _) (by decide)) ?_
      intro e u9 nw2 oK4 oR4 oN4 h4 tk4 hB4 at4 sz4 dp4 dk4 tab4 eK4 eR4 eN4 fr4 tok4
      obtain ⟨F8, N8, off8⟩ := law_build F7 N7 nd off3 hB4 fr4 eK4 eR4 eN4
      have h79 : SZ 3 = 79 := rfl
      try k_unfold
      refine JP.intro F8 N8 (fun p hp => List.mem_append_right _ hp) (at4.mono lk_app) (by omega) (by omega) dk4 (tab4.mono lk_app) off8 (tok4.imp id (TokR.mono (by dsimp only; omega)))
    · rename News _ _ _ ((I, _) :: _) => N7
      rename Fr _ _ _ _ => F7
      refine made_call (n := 2) (made_all 2) (gd0 B1 T1 X1 F7 (sitW N7)) (law_lk F7 N7 off3) wd (N7 (K, oK9) (by simp)).1 (N7 (R, oR3) (by simp)).1 (N7 (Nm, oN3) (by simp)).1 dk9 tab3 (by decide) (by decide) ?_
      intro e u9 nw2 oK4 oR4 oN4 h4 tk4 hB4 at4 sz4 dp4 dk4 tab4 eK4 eR4 eN4 fr4 tok4
      obtain ⟨F8, N8, off8⟩ := law_build F7 N7 nd off3 hB4 fr4 eK4 eR4 eN4
      have h79 : SZ 2 = 25 := rfl
      try k_unfold
      refine JP.intro F8 N8 (fun p hp => List.mem_append_right _ hp) (at4.mono lk_app) (by omega) (by omega) dk4 (tab4.mono lk_app) off8 (.inr (TokR.mono (by dsimp only; omega) tok4))
  try clear F4 N4
  intro u9 s9 j9
  obtain ⟨e, nwB, oK4, oR4, oN4, h4, tk4, rfl, F5, N5, hs5, at5, sz5, dp5, dk5, tab5, off5, tok5⟩ := j9
  replace at3 := at3.mono (lk' := LK (lk0 g) nwB) fun _ _ z => z.imp id (hs5 _)
  replace wd := wd.mono (lk' := LK (lk0 g) nwB) fun _ _ z => z.imp id (hs5 _)
  replace tabC := tabC.mono hs5
  clear tab3 dk3 off3 hs5
  have hu := at5.handed
  dsimp only at tok3 tok5
  repeat' (first | k_unfold | ((fail_if_success (with_reducible show wpAny _ _ (pyIter _) _ _ _)); (fail_if_success (with_reducible show wpAny _ _ (call (Value.ref _) _) _ _ _)); walk1) | ((fail_if_success (with_reducible show wpAny _ _ (pyIter _) _ _ _)); (fail_if_success (with_reducible show wpAny _ _ (call (Value.ref _) _) _ _ _)); dsimp only; walk1))
  rename News _ _ _ ((_, _) :: (_, _) :: (_, _) :: (_, _) :: (I, _) :: _) => N6
  rename Fr _ _ _ _ => F6
  have tokp : TokP v u9 := by
    intro i0 t0 j0 t0' e1 e2 ne
    obtain ⟨q1, q2⟩ := tok3 _ _ e1
    have q2' : @LT.lt Nat _ t0 tk3 := q2
    rcases tok5 with q | q
    · rw [e1, e2] at q; cases q; exact absurd rfl ne
    · obtain ⟨q3, q4⟩ := q _ _ e2
      exact ⟨(by omega : @Ne Nat t0 0), (by omega : @Ne Nat t0' 0), (by omega : @Ne Nat t0 t0')⟩
  have tokv : TokP v v := by
    intro i0 t0 j0 t0' e1 e2 ne
    rw [e1] at e2; cases e2; exact absurd rfl ne
  have h79 : SZ 3 = 79 := rfl
  refine iter_tupTurns (vs := [_, _, _]) rfl F6 N6 List.mem_cons_self rfl rfl ?_
  intro I2 l2
  refine law_items (p0 := (_, _)) (L3 := [(_, _), (_, _), (_, _)]) w ?step ?fin [_, _, _] _ _ ?hp ⟨ps, nwB, rfl, tabC, fun _ h => h, off5, rfl, rfl, rfl⟩ (fun p hp q => by have := l2 p hp; rw [q] at this; exact Nat.lt_irrefl _ this)
  case hp =>
    intro T hT
    simp only [List.mem_cons, List.not_mem_nil, or_false] at hT
    rcases hT with rfl | rfl | rfl
    · exact ⟨v, u9, d, e, by simp, at3, at5, by omega, by omega, by omega, tokp⟩
    · exact ⟨u9, v, e, d, by simp, at5, at3, by omega, by omega, by omega, tokp.symm⟩
    · exact ⟨v, v, d, d, by simp, at3, at3, by omega, by omega, by omega, tokv⟩
  case fin =>
    intro m7 news7 h7 tk7 j7 F7 N7
    obtain ⟨ps7, nw7, rfl, tabC7, sub7, off7, m1, m2, m3⟩ := j7
    simp only [List.cons_append, List.nil_append] at N7
    clear F6 N6
    repeat' (first | k_unfold | ((fail_if_success (with_reducible show wpAny _ _ (pyIter _) _ _ _)); walk1) | ((fail_if_success (with_reducible show wpAny _ _ (pyIter _) _ _ _)); dsimp only; walk1))
    rename News _ _ _ _ => N13
    rename Fr _ _ _ _ => F13
    refine PySem.W.UnrEnd.intro F13 N13 ((245, tabObj ps7) :: (K, oK4) :: (R, oR4) :: (Nm, oN4) :: nw7) (fun p hp => by repeat' (first | exact hp | refine List.mem_cons_of_mem _ ?_)) ?_ ⟨⟨ps7, oK4, oR4, oN4, nw7, rfl, dk5, tab5.mono fun _ _ z => z.imp id (sub7 _), wd.mono fun _ _ z => z.imp id (sub7 _), tabC7, fun p hp q => off7 p hp (List.mem_cons_of_mem _ q), h5K, h5R, h5N⟩, _, mform m1 m2 m3⟩
    have di := nd.i
    simp only [List.mem_cons, List.not_mem_nil, or_false, not_or] at di
    intro p hp
    simp only [List.mem_cons] at hp
    rcases hp with rfl | rfl | rfl | rfl | hp
    · exact fun q => nI5 q.symm
    · exact fun q => di.1 q.symm
    · exact fun q => di.2.1 q.symm
    · exact fun q => di.2.2 q.symm
    · exact fun q => off7 p hp (by rw [q]; simp)
  intro T pT m7 news7 h7 tk7 o7 hc7 j7 hoff7 F7 N7
  obtain ⟨ps7, nw7, rfl, tabC7, sub7, off7, m1, m2, m3⟩ := j7
  obtain ⟨x, y, d7, e7, hT, ax, ay, sx, dx, dy, tp⟩ := pT
  simp only [List.cons_append, List.nil_append] at N7
  replace N7 := news_cons (law_mem hT N7) N7
  clear F6 N6
  have l25 : @LT.lt Nat _ 245 I2 := l2 (245, tabObj ps) (by simp)
  have nT5 : @Ne Nat T 245 := fun q => by
    have z1 := (N7 (T, _) List.mem_cons_self).1
    have z2 := (N7 (245, tabObj ps7) (by simp)).1
    dsimp only at z1 z2
    rw [show T = (245 : Addr) from q, z2] at z1; cases z1
  have hx := ax.handed
  have hy := ay.handed
  repeat' (first | k_unfold | ((fail_if_success (with_reducible show wpAny _ _ (eval (PySem.Expr.BoolOp _ _ _) _) _ _ _)); (fail_if_success (with_reducible show wpAny _ _ (call (Value.ref _) _) _ _ _)); walk1) | ((fail_if_success (with_reducible show wpAny _ _ (eval (PySem.Expr.BoolOp _ _ _) _) _ _ _)); (fail_if_success (with_reducible show wpAny _ _ (call (Value.ref _) _) _ _ _)); dsimp only; walk1))
  rename News _ _ _ ((T, _) :: _) => N8
  rename Fr _ _ _ _ => F8
  try clear F7 N7
  have hl8 := law_hl (nw := nwB) F8 N8 (fun p hp => by
    have := sub7 p hp
    repeat' (first | exact this | refine List.mem_cons_of_mem _ ?_))
  refine law_joinB (d7.same e7) F8 N8 ?_ ?_
  · repeat' (first | k_unfold | ((fail_if_success (with_reducible show wpAny _ _ (compareOp _ _ _) _ _ _)); walk1) | ((fail_if_success (with_reducible show wpAny _ _ (compareOp _ _ _) _ _ _)); dsimp only; walk1))
    · obtain ⟨i8, t8, rfl, rfl⟩ := ax.int_of (by assumption)
      obtain ⟨j8, u8, rfl, rfl⟩ := ay.int_of (by assumption)
      repeat' (first | k_unfold | ((fail_if_success (with_reducible show wpAny _ _ (compareOp CmpOp.Is _ _) _ _ _)); walk1) | ((fail_if_success (with_reducible show wpAny _ _ (compareOp CmpOp.Is _ _) _ _ _)); dsimp only; walk1))
      · refine JBp.intro ?_ F8 N8
        simp_all [D.same]
      · rename _ ≠ _ => ne8
        obtain ⟨p1, p2, p3⟩ := tp _ _ _ _ rfl rfl ne8
        refine is_ints ne8 p1 p2 p3 ?_
        repeat' (first | k_unfold | ((fail_if_success (with_reducible show wpAny _ _ (compareOp CmpOp.Is _ _) _ _ _)); walk1) | ((fail_if_success (with_reducible show wpAny _ _ (compareOp CmpOp.Is _ _) _ _ _)); dsimp only; walk1))
        refine JBp.intro ?_ F8 N8
        simpa [D.same] using ne8
    · refine is_dat hl8 ax ay tp (fun h => by simp_all) ?_
      repeat' (first | k_unfold | ((fail_if_success (with_reducible show wpAny _ _ (compareOp CmpOp.Is _ _) _ _ _)); walk1) | ((fail_if_success (with_reducible show wpAny _ _ (compareOp CmpOp.Is _ _) _ _ _)); dsimp only; walk1))
      exact JBp.intro rfl F8 N8
    · refine is_dat hl8 ax ay tp (fun h => by simp_all) ?_
      repeat' (first | k_unfold | ((fail_if_success (with_reducible show wpAny _ _ (compareOp CmpOp.Is _ _) _ _ _)); walk1) | ((fail_if_success (with_reducible show wpAny _ _ (compareOp CmpOp.Is _ _) _ _ _)); dsimp only; walk1))
      exact JBp.intro rfl F8 N8
  have fn8 : Fn (LK (lk0 g) nwB) := law_fn hl8
  have q81 : eqv (fun _ _ => true) d7 e7 = alike false d7 e7 := eqv_alike fn8 (fun _ _ _ _ _ _ => rfl) ax ay
  have q82 : eqv saS d7 e7 = alike true d7 e7 := eqv_alike fn8 (fun _ _ _ _ _ _ => rfl) ax ay
  clear hl8 fn8
  repeat' (first | k_unfold | ((fail_if_success (with_reducible show wpAny _ _ (call (Value.ref _) _) _ _ _)); walk1) | ((fail_if_success (with_reducible show wpAny _ _ (call (Value.ref _) _) _ _ _)); dsimp only; walk1))
  rename News _ _ _ _ => N9
  rename Fr _ _ _ _ => F9
  refine alike_call (alike_all (d7.depth + 1)) (Nat.lt_succ_self _) (gd0 B1 T1 X1 F9 (fun _ h => nomatch h)) (law_hl F9 N9 (fun p hp => by have z := sub7 p hp; repeat' (first | exact z | refine List.mem_cons_of_mem _ ?_))) ax ay (room_a dx) (room_b dx) ?_
  intro h9 tk9 fr9
  have F10 := after0F F9 fr9
  have N10 := after0N N9 fr9
  clear F9 N9 fr9
  repeat' (first | k_unfold | ((fail_if_success (with_reducible show wpAny _ _ (call (Value.ref _) _) _ _ _)); walk1) | ((fail_if_success (with_reducible show wpAny _ _ (call (Value.ref _) _) _ _ _)); dsimp only; walk1))
  rename News _ _ _ _ => N9
  rename Fr _ _ _ _ => F9
  refine alike_call (alike_all (d7.depth + 1)) (Nat.lt_succ_self _) (gd0 B1 T1 X1 F9 (fun _ h => nomatch h)) (law_hl F9 N9 (fun p hp => by have z := sub7 p hp; repeat' (first | exact z | refine List.mem_cons_of_mem _ ?_))) ax ay (room_a dx) (room_b dx) ?_
  intro h9 tk9 fr9
  have F10 := after0F F9 fr9
  have N10 := after0N N9 fr9
  clear F9 N9 fr9
  repeat' (first | k_unfold | ((fail_if_success (with_reducible show wpAny _ _ (call (Value.ref _) _) _ _ _)); walk1) | ((fail_if_success (with_reducible show wpAny _ _ (call (Value.ref _) _) _ _ _)); dsimp only; walk1))
  rename News _ _ _ _ => N9
  rename Fr _ _ _ _ => F9
  refine eq_spec (W := []) (gd0 B1 T1 X1 F9 (fun _ h => nomatch h)) (law_hl F9 N9 (fun p hp => by have z := sub7 p hp; repeat' (first | exact z | refine List.mem_cons_of_mem _ ?_))) ax ay (by decide) (by decide) ?_
  intro h9 tk9 fr9
  have F10 := after0F F9 fr9
  have N10 := after0N N9 fr9
  clear F9 N9 fr9
  repeat' (first | k_unfold | ((fail_if_success (with_reducible show wpAny _ _ (call (Value.ref _) _) _ _ _)); walk1) | ((fail_if_success (with_reducible show wpAny _ _ (call (Value.ref _) _) _ _ _)); dsimp only; walk1))
  rename News _ _ _ _ => N9
  rename Fr _ _ _ _ => F9
  refine equal_spec (gd0 B1 T1 X1 F9 (fun _ h => nomatch h)) (law_hl F9 N9 (fun p hp => by have z := sub7 p hp; repeat' (first | exact z | refine List.mem_cons_of_mem _ ?_))) ax ay (by omega) (by decide) (by decide) ?_
  intro h9 tk9 fr9
  have F10 := after0F F9 fr9
  have N10 := after0N N9 fr9
  clear F9 N9 fr9
  rw [q81]
  repeat' (first | k_unfold | ((fail_if_success (with_reducible show wpAny _ _ (call (Value.ref _) _) _ _ _)); walk1) | ((fail_if_success (with_reducible show wpAny _ _ (call (Value.ref _) _) _ _ _)); dsimp only; walk1))
  rename News _ _ _ _ => N9
  rename Fr _ _ _ _ => F9
  have m59 : ((245 : Addr), tabObj ps7) ∈ _ := List.mem_cons_self (a := ((245 : Addr), tabObj ps7)) (l := [])
  clear m59
  refine equal_including_spec (gd0 (W := [245]) B1 T1 X1 F9 (law_g5 (o := tabObj ps7) N9 (by k_mem))) (lkW F9 N9 (fun _ _ e => e) (fun p hp => by have z := sub7 p hp; repeat' (first | exact z | refine List.mem_cons_of_mem _ ?_)) (fun p hp q => off5 p hp (by rw [List.mem_singleton] at q; rw [q]; simp)) (fun a ha => (law_g5 (o := tabObj ps7) N9 (by k_mem) a ha).2)) ax ay (by omega) (TabC.ok F9 (fun p hp => N9 p (by repeat' (first | exact hp | refine List.mem_cons_of_mem _ ?_))) (N9 (245, tabObj ps7) (by k_mem)).1 tabC7) (by decide) (by decide) ?_
  intro h9 tk9 fr9 tb9
  rw [q82]
  obtain ⟨ps8, cN, e59, bC, tabC8⟩ := law_tab (ps7 := ps7) N9 (by k_mem) tb9 tabC7
  have off75 : ∀ p ∈ nw7, p.1 ≠ 245 := fun p hp q => off7 p hp (by rw [q]; simp)
  have al9 : ∀ a ∈ [I2, I, 245, K, R, Nm], ∃ o, Heap.get? _ a = some o := fun a ha => by
    simp only [List.mem_cons, List.not_mem_nil, or_false] at ha
    rcases ha with rfl | rfl | rfl | rfl | rfl | rfl
    · exact ⟨o7, News.get N9 (by k_mem)⟩
    · exact ⟨krsIt ia ib 1, News.get N9 (by k_mem)⟩
    · exact ⟨tabObj ps7, News.get N9 (by k_mem)⟩
    · exact ⟨oK4, News.get N9 (by k_mem)⟩
    · exact ⟨oR4, News.get N9 (by k_mem)⟩
    · exact ⟨oN4, News.get N9 (by k_mem)⟩
  have offc := near_off bC al9
  obtain ⟨F10, N10⟩ := after1 F9 N9 (by k_updF) fr9 e59
  try dsimp only at N10
  have bN := fun p hp => newN F9 (bC p hp).1 (bC p hp).2
  clear F9 N9 fr9 e59 al9
  replace N10 := law_tail (pre := [_, _, _, _, _, _, _, _, _, _, _, _]) N10 bN
  simp only [List.cons_append, List.nil_append] at N10
  have off8 : ∀ p ∈ cN ++ nw7, p.1 ∉ [I, 245, K, R, Nm] := fun p hp q => by
    rcases List.mem_append.mp hp with hp | hp
    · exact offc p hp (List.mem_cons_of_mem _ q)
    · exact off7 p hp q
  have off8' : ∀ p ∈ cN ++ nw7, p.1 ≠ I2 := fun p hp q => by
    rcases List.mem_append.mp hp with hp | hp
    · exact offc p hp (by rw [q]; simp)
    · exact hoff7 p (by simp [hp]) q
  have sub8 : ∀ p ∈ nwB, p ∈ cN ++ nw7 := fun p hp => List.mem_append_right _ (sub7 p hp)
  clear bN bC offc off7 off75 sub7 tabC7
  generalize cN ++ nw7 = nw8 at N10 off8 off8' sub8 tabC8
  repeat' (first | k_unfold | ((fail_if_success (with_reducible show wpAny _ _ (compareOp CmpOp.NotEq _ _) _ _ _)); walk1) | ((fail_if_success (with_reducible show wpAny _ _ (compareOp CmpOp.NotEq _ _) _ _ _)); dsimp only; walk1))
  rename News _ _ _ _ => N11
  refine ne_three N11 (by k_mem) (by k_mem) (show (4 + 3) + 64 < cLine by decide) ?_
  repeat' (first | k_unfold | ((fail_if_success (with_reducible show wpAny _ _ (pyIter _) _ _ _)); walk1) | ((fail_if_success (with_reducible show wpAny _ _ (pyIter _) _ _ _)); dsimp only; walk1))
  rename News _ _ _ _ => N12
  rename Fr _ _ _ _ => F12
  refine endW F12 N12 ([_, _, _, _] ++ (I, krsIt ia ib 1) :: (245, tabObj ps8) :: (K, oK4) :: (R, oR4) :: (Nm, oN4) :: nw8) (fun p hp => by repeat' (first | exact hp | refine List.mem_cons_of_mem _ ?_)) ?_ ⟨ps8, nw8, rfl, tabC8, sub8, off8, ?_, ?_, ?_⟩
  · intro p hp q hq
    rw [List.mem_singleton] at hq
    subst hq
    simp only [List.cons_append, List.nil_append, List.mem_cons] at hp
    rcases hp with rfl | rfl | rfl | rfl | rfl | rfl | rfl | rfl | rfl | hp
    · exact hoff7 _ (by simp)
    · exact hoff7 _ (by simp)
    · exact hoff7 _ (by simp)
    · exact hoff7 _ (by simp)
    · exact hoff7 _ (by simp)
    · exact hoff7 (245, tabObj ps7) (by simp)
    · exact hoff7 _ (by simp)
    · exact hoff7 _ (by simp)
    · exact hoff7 _ (by simp)
    · exact off8' p hp
  · exact m1
  · exact m2
  · exact m3
)
end T17X

end GrpT14X5

end GrpT10X4

end Mine
end GrpT7X0

theorem PySem.Challenge.cw_np0028_01_holds : PySem.Challenge.rw_np0028_01.Holds :=
  Mine.holds
