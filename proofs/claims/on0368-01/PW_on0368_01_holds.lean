import PyProof.Rows.All
import Wide.All
import OpenK.AllK
import Wide.FinOn
import Lean
import PySem.Challenge.RW_on0368_01
open PySem PySem.W PyProof.Rows PySem.Calls PyProof.V
set_option Elab.async false
set_option linter.unusedSimpArgs false
set_option linter.unusedVariables false
set_option maxRecDepth 100000
namespace Mine
set_option maxHeartbeats 8000000
theorem ws : PySem.Challenge.rw_on0368_01.wellSaid = true := by
  show OpenLaw.wellSaid _ = true
  rw [show OpenLaw.wellSaid = _ from PySem.W.Fast.te9446332074065402090]
  kernel_rfl
section
local macro_rules | `(tactic| o_law) => `(tactic| refine holds_law ws fun said => ?_)
local macro_rules | `(tactic| w_witness2) => `(tactic| exact fun _ => True.intro)
local macro_rules | `(tactic| o_head $H) => `(tactic| refine (fun (_ : Hook → True) (h : (∃ K : Hook, K = $H) ∧ PySem.Challenge.rw_on0368_01.row.Holds) => h.2) ?hw ?hc)
open_top hd for PySem.Challenge.rw_on0368_01
end
/-- the statements of the text that the walk looks at -/
def hd.view_39 : Program := view PySem.Challenge.rw_on0368_01.row.prog [0, 2, 3, 4, 5, 6, 7, 8, 10, 11, 12, 13, 14, 15, 16, 18, 19, 21, 22, 24, 25, 27, 28, 29, 30, 31, 32, 33, 34, 35, 36, 37, 38]
noncomputable def KH : Hook := kHook hd.heap_1 [2, 3, 15, 17, 18, 20, 21, 22, 24, 25, 27, 28, 29, 31, 32, 34, 35, 36, 37, 39, 40, 42, 43, 44, 46, 47, 49, 50, 51, 53, 54, 56, 57, 58, 60, 61, 63, 64, 65, 67, 68, 70, 71, 72, 74, 75, 77, 78, 79, 81, 82, 84, 85, 86, 88, 89, 91, 92, 100, 102, 103, 105, 106, 107, 109, 110, 112, 113, 114, 116, 117, 119, 120, 121, 123, 124, 126, 127, 128, 130, 131, 133, 134, 135, 136, 137, 138, 139, 142, 144, 145, 147, 148, 156, 158, 159, 161, 162, 163, 165, 166, 168, 169, 170, 172, 173, 175, 176, 177, 179, 180, 182, 183, 184, 185, 186, 187, 188, 191, 194, 195, 196, 198, 199, 201, 202, 203, 205, 206, 208, 209, 210, 211, 212, 213, 214, 215, 216, 218, 219, 221, 222, 223, 225, 226, 228, 229, 230, 232, 233, 235, 236, 237, 239, 240, 242, 243, 244, 246, 247, 249, 250, 251, 253, 254, 256, 257, 258, 261, 262] (fun _ => by kernel_rfl)
def loopT (ok : Thread → Bool) (stp : SharedT → Thread → Option (SharedT × Thread)) : Nat → SharedT → Thread → Option SharedT
  | 0, _, _ => none
  | n + 1, s, t => match through t with
    | true => some s
    | false => match ok t with
      | false => none
      | true => match stp s t with
        | some (s', t') => loopT ok stp n s' t'
        | none => none
theorem loop_of {tb : String → Option Builtin} {p : Program} {w : World} {n₀ : Nat} {ann : Option Value} : ∀ {n : Nat} {s s' : SharedT} {t : Thread}, loopT (stepOk n₀ ann) (stepT (denote tb) p w) n s t = some s' → topRun tb p w n₀ ann n s.abs t = some s'.abs
  | 0, _, _, _, h => by cases h
  | n + 1, s, s', t, h => by
    unfold loopT at h
    unfold topRun
    cases he : through t with
    | true => rw [he] at h; cases h; rfl
    | false =>
      rw [he] at h
      cases hk : stepOk n₀ ann t with
      | false => rw [hk] at h; cases h
      | true =>
        rw [hk] at h
        cases hs : stepT (denote tb) p w s t with
        | none => rw [hs] at h; cases h
        | some r => obtain ⟨s₂, t₂⟩ := r; rw [hs] at h; rw [stepT_spec hs]; exact loop_of h
def insAll : List Obj → Nat → BT → BT
  | [], _, T => T
  | o :: r, i, T => insAll r (i + 1) (T.ins i o)
theorem boot_o : opening PySem.Challenge.rw_on0368_01.row.prog = plainProg PySem.Challenge.rw_on0368_01.row.prog.main.scope.names := by rfl
theorem boot_f (s : Shared) : fenceModules? PySem.Challenge.rw_on0368_01.row.prog s = some s := by rfl
theorem boot_sz (w : World) : ((boot_heap w.params).isNs mainGlobals, (boot_heap w.params).objs.size, (boot_heap w.params).nsMap mainGlobals (Str.ofString "__annotations__")) = (true, 11, some (.ref 6)) := by kernel_rfl
noncomputable def T0 (w : World) (os : OsState) : SharedT := ⟨insAll (boot_heap w.params).objs.toList 0 .nil, 11, (boot_heap w.params).life, #[], boot_drawn, boot_toks, os⟩
theorem T0_abs (w : World) (os : OsState) : (T0 w os).abs = ⟨boot_heap w.params, #[], boot_drawn, boot_toks, os⟩ := by kernel_rfl
def topP (w : World) : Prop := ∀ os : OsState, (loopT (stepOk 11 (some (.ref 6))) (stepT (denote treeTable) PySem.Challenge.rw_on0368_01.row.prog w) 3642 (T0 w os) (topStub PySem.Challenge.rw_on0368_01.row.prog)).map (fun s => ((staticsOk (importedModules PySem.Challenge.rw_on0368_01.row.prog.main.body) (boot_heap w.params) s.abs.heap && namesBound PySem.Challenge.rw_on0368_01.row.prog s.abs.heap && gensDone s.abs && laidKept (boot_heap w.params) s.abs.heap), openSeen hd.view_39 [Str.ofString "SYLLABLES", Str.ofString "_law_sorts", Str.ofString "_law_lots"] (importedModules PySem.Challenge.rw_on0368_01.row.prog.main.body) (fun s => xlAt hd.view_39 [(Str.ofString "SYLLABLES", WData.int 11172)] s && recOk PySem.Challenge.rw_on0368_01.row.records s) true s.abs, Hook.obs KH s.abs)) = some (true, openGood hd.view_39 [Str.ofString "SYLLABLES", Str.ofString "_law_sorts", Str.ofString "_law_lots"], Hook.val KH w)
theorem top_f (w : World) : topP (w.withFollow "special-get-raises" false) := by
  unfold topP
  intro os
  rw [PySem.W.Fast.te14364793385576792824, PySem.W.Fast.te10156331382660048174, PySem.W.Fast.te11892475500146522536, PySem.W.Fast.te6613529449190102663, PySem.W.Fast.te4187177175401517315, PySem.W.Fast.te5923862056798008813]
  kernel_rfl
theorem top_t (w : World) : topP (w.withFollow "special-get-raises" true) := by
  unfold topP
  intro os
  rw [PySem.W.Fast.te14364793385576792824, PySem.W.Fast.te10156331382660048174, PySem.W.Fast.te11892475500146522536, PySem.W.Fast.te6613529449190102663, PySem.W.Fast.te4187177175401517315, PySem.W.Fast.te5923862056798008813]
  kernel_rfl
theorem nOk : namesOk hd.view_39 (looseW hd.view_39 [Str.ofString "SYLLABLES", Str.ofString "_law_sorts", Str.ofString "_law_lots"]) (namesW hd.view_39 [Str.ofString "SYLLABLES", Str.ofString "_law_sorts", Str.ofString "_law_lots"]) = true := by kernel_rfl
theorem iOk : importsNone hd.view_39 = true := by kernel_rfl
theorem left_of {p q : Program} {loose : List Str} {Xt : Shared → Bool} {α : Type} {Yf : Shared → α} {Ya : World → α} {N m₀ k₀ : Nat} {ann : Option Value} {H₀ : Params → Heap} {d₀ : Drawn} {T : World → OsState → SharedT}
    (open_ : ∀ w : World, (fencedOpening treeTable p w N).map (fun s => (s.heap, s.gens, s.drawn, s.toks)) = some (H₀ w.params, #[], d₀, k₀))
    (size : ∀ w : World, ((H₀ w.params).isNs mainGlobals, (H₀ w.params).objs.size, (H₀ w.params).nsMap mainGlobals (Str.ofString "__annotations__")) = (true, m₀, ann))
    (abs : ∀ (w : World) (os : OsState), (T w os).abs = ⟨H₀ w.params, #[], d₀, k₀, os⟩)
    (run : ∀ (w : World) (os : OsState), (loopT (stepOk m₀ ann) (stepT (denote treeTable) p w) N (T w os) (topStub p)).map (fun s => ((staticsOk (importedModules p.main.body) (H₀ w.params) s.abs.heap && namesBound p s.abs.heap && gensDone s.abs && laidKept (H₀ w.params) s.abs.heap), openSeen q loose (importedModules p.main.body) Xt true s.abs, Yf s.abs)) = some (true, openGood q loose, Ya w)) : LeftO p q loose Xt Yf Ya N := by
  intro w
  obtain ⟨⟨h, gs, d, k, os⟩, e, e'⟩ := Option.map_eq_some_iff.mp (open_ w)
  obtain ⟨rfl, rfl, rfl, rfl⟩ : h = H₀ w.params ∧ gs = #[] ∧ d = d₀ ∧ k = k₀ := by simpa using e'
  obtain ⟨z1, z2, z3⟩ : _ ∧ _ ∧ _ := by simpa only [Prod.mk.injEq] using size w
  obtain ⟨sT, r, ob⟩ := Option.map_eq_some_iff.mp (run w os)
  have run := loop_of r
  rw [abs] at run
  obtain ⟨l1, l2, l3⟩ : _ ∧ _ ∧ _ := by simpa only [Prod.mk.injEq] using ob
  have t : topFrom treeTable p w N ⟨H₀ w.params, #[], d, k, os⟩ = some sT.abs := by
    unfold topFrom
    dsimp only
    rw [z1, z2, z3, run]
    show (match staticsOk (importedModules p.main.body) (H₀ w.params) sT.abs.heap && namesBound p sT.abs.heap && gensDone sT.abs && laidKept (H₀ w.params) sT.abs.heap with | true => _ | false => _) = _
    rw [l1]
  unfold openEnds
  rw [e]
  show (topFrom treeTable p w N _).map _ = _
  rw [t]
  exact congrArg some (Prod.ext l2 l3)
theorem top_left : LeftO PySem.Challenge.rw_on0368_01.row.prog hd.view_39 [Str.ofString "SYLLABLES", Str.ofString "_law_sorts", Str.ofString "_law_lots"] (fun s => xlAt hd.view_39 [(Str.ofString "SYLLABLES", WData.int 11172)] s && recOk PySem.Challenge.rw_on0368_01.row.records s) (Hook.obs KH) (Hook.val KH) 3642 :=
  left_of (boot_open boot_o rfl boot_f) boot_sz T0_abs fun w => byRow2 "special-get-raises" (P := topP) top_f top_t w
section
local macro_rules | `(tactic| o_law) => `(tactic| refine holds_law ws fun said => ?_)
local macro_rules | `(tactic| k_head) => `(tactic| (
  refine holds_open (q := hd.view_39) (loose := [Str.ofString "SYLLABLES", Str.ofString "_law_sorts", Str.ofString "_law_lots"]) (Xt := (fun s => xlAt hd.view_39 [(Str.ofString "SYLLABLES", WData.int 11172)] s && recOk PySem.Challenge.rw_on0368_01.row.records s)) (XP := XL hd.view_39 [(Str.ofString "SYLLABLES", WData.int 11172)]) (Yf := Hook.obs KH) (Ya := Hook.val KH) (YP := Hook.says KH) (N := 3642) top_left (Hook.of KH) (Hook.keeps KH) (fun s e => xl_of s (Bool.and_eq_true_iff.mp e).1) XL.keeps (by rfl) (by rfl) (by rfl) (fun s e => recFacts_of (Bool.and_eq_true_iff.mp e).2) (by rfl) (by first | assumption | decide +kernel) (by decide +kernel) ⟨rfl, rfl, rfl, rfl, rfl, by decide +kernel⟩ ?hw ?hc))
open_top hd1 for PySem.Challenge.rw_on0368_01
end
theorem walk_off_C0 : True := by
  w_top off
  trivial
section

abbrev Led := List (Addr × Obj)
/-- what a call of f with the arguments vs gives back over the ledger news -/
def Gives (w : World) (loose : List Str) (mean : ExcName → Option Value) (mg mb : Str → Option Value) (f : Addr) (sz : Nat) (news : Led) (vs : List Value) (R : Value → Led → Prop) : Prop :=
  ∀ (dp un : Nat) (gd : Option (List Code)) (cn : Str) (cs : Scope) (a : Addr) (ccd : Value) (cl : List (Str × Addr)) (outer : List Env) (A₀ : Around) (base h₀ : Heap) (L : Addr) (m : Str → Option Value) (s : Shared)
    (Q E : Value → Shared → Prop),
    Below A₀ base outer h₀ → Fr h₀ L s.heap m → (hd.heap_1 w.params).In h₀ → News h₀ L s.heap news → Top hd.view_39 loose mean mg mb h₀ → cs.kind = .function → dp + sz < recursionLimit → un + 8 * sz < cLine →
    (∀ r news' h' tk', R r news' → Fr h₀ L h' m → News h₀ L h' news' → Q r { s with heap := h', toks := tk' }) →
    wpAny (model PySem.Challenge.rw_on0368_01.row.prog w) (ktrTop dp un gd cn cs L a ccd cl outer) (call (.ref f) vs) Q E s
/-- a call that leaves every object as it stands -/
def GivesP (w : World) (loose : List Str) (mean : ExcName → Option Value) (mg mb : Str → Option Value) (f : Addr) (sz : Nat) (news : Led) (vs : List Value) (R : Value → Prop) : Prop :=
  ∀ (dp un : Nat) (gd : Option (List Code)) (cn : Str) (cs : Scope) (a : Addr) (ccd : Value) (cl : List (Str × Addr)) (outer : List Env) (A₀ : Around) (base h₀ : Heap) (L : Addr) (m : Str → Option Value) (s : Shared)
    (Q E : Value → Shared → Prop),
    Below A₀ base outer h₀ → Fr h₀ L s.heap m → (hd.heap_1 w.params).In h₀ → News h₀ L s.heap news → Top hd.view_39 loose mean mg mb h₀ → cs.kind = .function → dp + sz < recursionLimit → un + 8 * sz < cLine →
    (∀ r h' tk', R r → Fr h₀ L h' m → News h₀ L h' news → InElt s.heap h' → Q r { s with heap := h', toks := tk' }) →
    wpAny (model PySem.Challenge.rw_on0368_01.row.prog w) (ktrTop dp un gd cn cs L a ccd cl outer) (call (.ref f) vs) Q E s
/-- a call that leaves every object as it stands and makes new ones -/
def GivesN (w : World) (loose : List Str) (mean : ExcName → Option Value) (mg mb : Str → Option Value) (f : Addr) (sz : Nat) (vs : List Value) (R : Value → Led → Prop) : Prop :=
  ∀ (dp un : Nat) (gd : Option (List Code)) (cn : Str) (cs : Scope) (a : Addr) (ccd : Value) (cl : List (Str × Addr)) (outer : List Env) (A₀ : Around) (base h₀ : Heap) (L : Addr) (m : Str → Option Value) (s : Shared)
    (Q E : Value → Shared → Prop),
    Below A₀ base outer h₀ → Fr h₀ L s.heap m → (hd.heap_1 w.params).In h₀ → Top hd.view_39 loose mean mg mb h₀ → cs.kind = .function → dp + sz < recursionLimit → un + 8 * sz < cLine →
    (∀ r tl h' tk', R r tl → (∀ p ∈ tl, s.heap.get? p.1 = none) → Fr h₀ L h' m → News h₀ L h' tl → InElt s.heap h' → Q r { s with heap := h', toks := tk' }) →
    wpAny (model PySem.Challenge.rw_on0368_01.row.prog w) (ktrTop dp un gd cn cs L a ccd cl outer) (call (.ref f) vs) Q E s
theorem fresh_of {s g h : Heap} {L : Addr} {tl : Led} (G : GSub s g []) (N : News g L h tl) : ∀ p ∈ tl, s.get? p.1 = none := fun p hp => by
  cases q : s.get? p.1 with
  | none => rfl
  | some o => have := G _ _ q (by simp); rw [(N p hp).2.2] at this; cases this
theorem kst_same {m₀ u : Str → Option Value} {stored : List Str} {z : Str} (h3 : stored.contains z = false) : ∀ {ps : List (Str × Value)}, (∀ p ∈ ps, z ≠ p.1) → kstB (fun z => if stored.contains z then u z else m₀ z) ps z = m₀ z
  | [], _ => by exact if_neg (by rw [h3]; decide)
  | p :: r, h2 => by
    exact (if_neg (h2 p (.head _))).trans (kst_same h3 fun q hq => h2 q (.tail _ hq))
theorem kst_same2 {m₀ u : Str → Option Value} {stored : List Str} {z : Str} {ps ps' : List (Str × Value)} (h3 : stored.contains z = false) (h2 : ∀ p ∈ ps', z ≠ p.1) (e : ps.map (·.1) = ps'.map (·.1)) : kstB (fun z => if stored.contains z then u z else m₀ z) ps z = m₀ z := by
  refine kst_same h3 fun p hp => ?_
  have : p.1 ∈ ps'.map (·.1) := e ▸ List.mem_map_of_mem hp
  obtain ⟨q, hq, e2⟩ := List.mem_map.mp this
  exact e2 ▸ h2 q hq
theorem ne_of_contains {stored : List Str} {z y : Str} (h3 : stored.contains z = false) (h : y ∈ stored) : z ≠ y := by
  intro e; subst e
  have := List.contains_iff_mem.mpr h
  rw [h3] at this
  cases this
section
variable {w : World} {loose : List Str} {mean : ExcName → Option Value} {mg mb : Str → Option Value} {f : Addr} {sz : Nat} {news : Led} {vs : List Value}
  {dp un : Nat} {gd : Option (List Code)} {cn : Str} {cs : Scope} {a : Addr} {ccd : Value} {cl : List (Str × Addr)} {outer : List Env} {A₀ : Around} {base h₀ : Heap} {L : Addr} {m : Str → Option Value} {s : Shared} {Q E : Value → Shared → Prop}
theorem GivesP.use {R : Value → Prop} (C : GivesP w loose mean mg mb f sz news vs R)
    (B : Below A₀ base outer h₀) (F : Fr h₀ L s.heap m) (X : (hd.heap_1 w.params).In h₀) (N : News h₀ L s.heap news) (T : Top hd.view_39 loose mean mg mb h₀) (hk : cs.kind = .function) (hdp : dp + sz < recursionLimit) (hun : un + 8 * sz < cLine)
    (ret : ∀ r h' tk', R r → Fr h₀ L h' m → News h₀ L h' news → InElt s.heap h' → Q r { s with heap := h', toks := tk' }) :
    wpAny (model PySem.Challenge.rw_on0368_01.row.prog w) (ktrTop dp un gd cn cs L a ccd cl outer) (call (.ref f) vs) Q E s := C _ _ _ _ _ _ _ _ _ _ _ _ _ _ _ _ _ B F X N T hk hdp hun ret
theorem GivesN.use {R : Value → Led → Prop} (C : GivesN w loose mean mg mb f sz vs R)
    (B : Below A₀ base outer h₀) (F : Fr h₀ L s.heap m) (X : (hd.heap_1 w.params).In h₀) (N : News h₀ L s.heap news) (T : Top hd.view_39 loose mean mg mb h₀) (hk : cs.kind = .function) (hdp : dp + sz < recursionLimit) (hun : un + 8 * sz < cLine)
    (ret : ∀ r tl h' tk', R r tl → (∀ p ∈ tl, ∀ q ∈ news, q.1 ≠ p.1) → Fr h₀ L h' m → News h₀ L h' (tl ++ news) → InElt s.heap h' → Q r { s with heap := h', toks := tk' }) :
    wpAny (model PySem.Challenge.rw_on0368_01.row.prog w) (ktrTop dp un gd cn cs L a ccd cl outer) (call (.ref f) vs) Q E s :=
  C _ _ _ _ _ _ _ _ _ _ _ _ _ _ _ _ _ B F X T hk hdp hun fun r tl h' tk' hR hf F' N' I => ret r tl h' tk' hR (fun p hp q hq e => by
    have h1 := hf p hp
    rw [← e, (N q hq).1] at h1
    cases h1) F' (fun p hp => (List.mem_append.mp hp).elim (N' p) (fun hp => ⟨I _ _ (N p hp).1, (N p hp).2⟩)) I
theorem Gives.use {R : Value → Led → Prop} (C : Gives w loose mean mg mb f sz news vs R)
    (B : Below A₀ base outer h₀) (F : Fr h₀ L s.heap m) (X : (hd.heap_1 w.params).In h₀) (N : News h₀ L s.heap news) (T : Top hd.view_39 loose mean mg mb h₀) (hk : cs.kind = .function) (hdp : dp + sz < recursionLimit) (hun : un + 8 * sz < cLine)
    (ret : ∀ r news' h' tk', R r news' → Fr h₀ L h' m → News h₀ L h' news' → Q r { s with heap := h', toks := tk' }) :
    wpAny (model PySem.Challenge.rw_on0368_01.row.prog w) (ktrTop dp un gd cn cs L a ccd cl outer) (call (.ref f) vs) Q E s := C _ _ _ _ _ _ _ _ _ _ _ _ _ _ _ _ _ B F X N T hk hdp hun ret
end
end
section
local macro_rules | `(tactic| k_room) => `(tactic| ktr_room)
local macro_rules | `(tactic| k_enter) => `(tactic| (k_inElt; (refine' code_defG ?k1 ?k2 ?k3 ?k4 ?k5 ?kA ?kF ?kK ?k6 ?k7 ?k8 ?k9 ?kB ?_ ?c2 ?c3 ?c4 ?c5; (case kA => exact rfl); (case kF => exact rfl); (case kK => first | exact rfl | assumption); (case k1 => k_asm); (case k2 => k_asm); (case k3 => k_asm); (case k4 => k_asm); (case k5 => k_asm); (case k6 => k_is); (case k7 => k_is); (case k8 => k_room); (case k9 => first | exact BindsTo.of_eq rfl | exact binds_K (by k_in) rfl (by k_is) rfl rfl rfl | fail "k_enter: no rule for these arguments"); (case c5 => decide); (case kB => exact locs rfl); (case c2 => exact rfl); (case c3 => exact rfl); (case c4 => exact rfl); k_whole; intro g' L' h' FG' F' N' B' X' T' kG'; (try dsimp only); (try k_lift B'); (try k_fold))))
section
local macro_rules | `(tactic| news_mem) => `(tactic| assumption)
theorem walk_off_C1 : True := by
  w_top off
  trivial
section
set_option maxHeartbeats 4000000
def cnt (ns : List Int) (x : Int) : Nat := (ns.takeWhile (fun n => decide (n ≤ x))).length
theorem cnt_le (ns : List Int) (x : Int) : cnt ns x ≤ ns.length := by
  unfold cnt; induction ns with
  | nil => simp
  | cons a r ih => rw [List.takeWhile_cons]; split <;> simp; exact ih
theorem cnt_spec {ns : List Int} (x : Int) (hs : ns.Pairwise (· ≤ ·)) : ∀ (i : Nat) (n : Int), ns[i]? = some n → (n ≤ x ↔ i < cnt ns x) := by
  induction ns with
  | nil => intro i n h; simp at h
  | cons a r ih =>
    intro i n h
    have ih := ih hs.tail
    rw [List.pairwise_cons] at hs
    have hu : cnt (a :: r) x = if a ≤ x then cnt r x + 1 else 0 := by
      unfold cnt; rw [List.takeWhile_cons]; by_cases q : a ≤ x <;> simp [q]
    rw [hu]
    cases i with
    | zero =>
      simp at h; subst h
      by_cases q : a ≤ x <;> simp [q]
    | succ i =>
      simp at h
      have h1 := ih i n h
      by_cases q : a ≤ x
      · simp [q, h1]
      · have := hs.1 n (List.mem_of_getElem? h)
        simp [q]; omega
theorem pbh_up {ns : List Int} {x low high : Int} (hs : ns.Pairwise (· ≤ ·)) (h1 : 0 ≤ low) (h2 : low ≤ cnt ns x) (h3 : (cnt ns x : Int) ≤ high) (h4 : high ≤ ns.length) (h5 : low < high)
    (hq : ns.getD ((low + high).fdiv 2).toNat 0 ≤ x) : (0 ≤ (low + high).fdiv 2 + 1 ∧ (low + high).fdiv 2 + 1 ≤ cnt ns x ∧ (cnt ns x : Int) ≤ high ∧ high ≤ ns.length) ∧ (high - ((low + high).fdiv 2 + 1)).toNat < (high - low).toNat := by
  rw [Int.fdiv_eq_ediv_of_nonneg _ (by omega)] at *
  have hlt : ((low + high) / 2).toNat < ns.length := by omega
  have := (cnt_spec x hs _ _ (List.getElem?_eq_getElem hlt)).mp (by simpa [List.getD, hlt] using hq)
  omega
theorem pbh_dn {ns : List Int} {x low high : Int} (hs : ns.Pairwise (· ≤ ·)) (h1 : 0 ≤ low) (h2 : low ≤ cnt ns x) (h3 : (cnt ns x : Int) ≤ high) (h4 : high ≤ ns.length) (h5 : low < high)
    (hq : ¬ ns.getD ((low + high).fdiv 2).toNat 0 ≤ x) : (0 ≤ low ∧ low ≤ cnt ns x ∧ (cnt ns x : Int) ≤ (low + high).fdiv 2 ∧ (low + high).fdiv 2 ≤ ns.length) ∧ ((low + high).fdiv 2 - low).toNat < (high - low).toNat := by
  rw [Int.fdiv_eq_ediv_of_nonneg _ (by omega)] at *
  have hlt : ((low + high) / 2).toNat < ns.length := by omega
  have := mt (cnt_spec x hs _ _ (List.getElem?_eq_getElem hlt)).mpr (by simpa [List.getD, hlt] using hq)
  omega
theorem pbh (w : World) (loose : List Str) (mean : ExcName → Option Value) (mg mb : Str → Option Value) (news : Led) (l : Addr) (vs : List Value) (ns : List Int) (nn : Nat) (x : Int) (t : Tok)
    (hl : (l, listOf vs.toArray nn) ∈ news) (hi : IntsAre vs ns) (hs : ns.Pairwise (· ≤ ·)) (hlen : ns.length < 2 ^ 30) :
    GivesP w loose mean mg mb 85 1 news [.ref l, .int x t] (fun r => ∃ t, r = .int ((cnt ns x : Int) - 1) t) := by
  unfold GivesP
  k_fill
  intro dp un gd cn cs a ccd cl outer A₀ base h₀ L m s Q E B F X N T hk hd hu hret
  refine wpAny_call ?_
  have cE0 := InElt.start s.heap
  have hcl := cnt_le ns x
  k_with_none
  k_with "exec While Compare cons nil" => (rename Fr _ _ _ _ => lF'; rename News _ _ _ _ => lN'; refine' ksw_while (σ := (Int × Nat) × (Int × Nat)) (fun _ => news) (fun c => [(Str.ofString "low", .int c.1.1 c.1.2), (Str.ofString "high", .int c.2.1 c.2.2)]) (fun _ => True) [Str.ofString "middle"] (fun c => 0 ≤ c.1.1 ∧ c.1.1 ≤ cnt ns x ∧ (cnt ns x : Int) ≤ c.2.1 ∧ c.2.1 ≤ ns.length) (fun c => (c.2.1 - c.1.1).toNat) ((_,_),(_,_)) lF' lN' trivial ?kk ?kp ?_; (case kk => kst_all); (case kp => (dsimp only; omega)); clear lF' lN'; intro c u h tk _ hP F' N'; obtain ⟨⟨low, tl⟩, ⟨high, th⟩⟩ := c; dsimp only at hP; obtain ⟨hP1, hP2, hP3, hP4⟩ := hP; (try k_fold))
  k_dflt k_enter
  k_steps
  · rename ns.getD _ 0 ≤ x => hq
    have hz := pbh_up hs hP1 hP2 hP3 hP4 (by assumption) hq
    exact ksw_end ((_,_),(_,_)) (by assumption) (by assumption) (fun _ h => h) trivial (by kst_all) (by intro z h2 h3; repeat (first | exact kst_same2 h3 h2 rfl | (refine (if_neg ?hne).trans ?_; (case hne => first | exact h2 _ (.head _) | exact h2 _ (.tail _ (.head _)) | exact h2 _ (.tail _ (.tail _ (.head _))) | exact ne_of_contains h3 (.head _) | exact ne_of_contains h3 (.tail _ (.head _)))))) hz.1 hz.2
  · rename ¬ ns.getD _ 0 ≤ x => hq
    have hz := pbh_dn hs hP1 hP2 hP3 hP4 (by assumption) hq
    exact ksw_end ((_,_),(_,_)) (by assumption) (by assumption) (fun _ h => h) trivial (by kst_all) (by intro z h2 h3; repeat (first | exact kst_same2 h3 h2 rfl | (refine (if_neg ?hne).trans ?_; (case hne => first | exact h2 _ (.head _) | exact h2 _ (.tail _ (.head _)) | exact h2 _ (.tail _ (.tail _ (.head _))) | exact ne_of_contains h3 (.head _) | exact ne_of_contains h3 (.tail _ (.head _)))))) hz.1 hz.2
  · exact hret _ _ _ (ktn_int (by omega)) (by assumption) (by assumption) (by assumption)
end
theorem walk_off_C3 : True := by
  w_top off
  trivial
section

section
variable {prog : Program} {w : World} {A : Around} {E : Value → Shared → Prop} {s : Shared} {env : Env} {h₀ : Heap} {x : Str} {body : List Stmt} {Q : Flow → Shared → Prop}
theorem iter_invT {ax : Addr} {lo : Obj} {vs : List Value} {nn : Nat} {m₀ : Str → Option Value} {news : Led} (J : Nat → Led → Prop)
    (hh : A.handled = none) (hc : lo.cls = .type "tuple") (hd : lo.data = .seq vs.toArray nn) (hne : ∀ q ∈ news, q.1 ≠ ax) (F : Fr h₀ env.locals s.heap m₀) (N : News h₀ env.locals s.heap ((ax, lo) :: news)) (hj : J 0 news)
    (turn : ∀ i v news₁ h tk own, vs[i]? = some v → OwnOff own (news.map (·.1)) → J i news₁ → Fr h₀ env.locals h (fun y => if y = x then some v else m₀ y) → News h₀ env.locals h (news₁ ++ own) →
      wpAny (model prog w) A (execs body env) (InvPostN h₀ env.locals (fun m' nx => J (i + 1) nx ∧ ∀ z, z ≠ x → m' z = m₀ z) own (news.map (·.1)) { s with heap := h, toks := tk } Q) E { s with heap := h, toks := tk })
    (done : ∀ (u : Str → Option Value) news₁ h tk, J vs.length news₁ → Fr h₀ env.locals h (fun y => if y = x then u y else m₀ y) → News h₀ env.locals h news₁ → Q .next { s with heap := h, toks := tk }) :
    wpAny (model prog w) A (pyIter (.ref ax)) (fun it s₂ => LoopAtV prog w A h₀ env x body Q E it s₂) E s := by
  have hax := N _ (List.mem_cons_self ..)
  have hl : s.heap.IsTuple ax vs.toArray := ⟨lo, hax.1, hc, nn, hd⟩
  have hlt : ax < s.heap.objs.size := Heap.lt_size hax.1
  have hne' : ax ≠ s.heap.objs.size := Nat.ne_of_lt hlt
  have N₁ : News h₀ env.locals s.heap news := fun p hp => N p (List.mem_cons_of_mem _ hp)
  refine wpAny_pyIter_tuple hl ?_
  have W := Walks.tuple (prog := prog) (w := w) hh s.heap.objs.size ax hne' vs.toArray
  refine loop_invN (fun i m nx => J i nx ∧ ∀ z, z ≠ x → m z = m₀ z) W ?_ ?_ ?_ ?_ ?_ (F.push _) (fun p hp => ⟨Heap.get?_push_of_some _ (N₁ p hp).1, (N₁ p hp).2⟩) ⟨hj, fun _ _ => rfl⟩ ?_ ?_
  · intro hm
    rcases List.mem_cons.mp hm with e | hm
    · exact absurd F.ns.lt (e ▸ Nat.lt_irrefl _)
    · exact hax.2.1 (List.mem_singleton.mp hm).symm
  · intro b hb
    rw [List.mem_singleton.mp hb]
    exact next_is_new F
  · intro p hp hI
    exact absurd (Heap.lt_size (N₁ p hp).1) ((List.mem_singleton.mp hI) ▸ Nat.lt_irrefl _)
  · intro p hp hI
    rcases List.mem_cons.mp hI with e | hI
    · exact absurd (Heap.lt_size (N₁ p hp).1) (e ▸ Nat.lt_irrefl _)
    · exact hne p hp (List.mem_singleton.mp hI)
  · exact ⟨⟨_, Heap.get?_push_size _ rfl, rfl, rfl⟩, hl.at fun o e => Heap.get?_push_of_some _ e⟩
  · rintro i v m₁ news₁ h tk own hi hP _ hoff ⟨hJ, hm⟩ F₁ N₂
    have e : (fun y => if y = x then some v else m₁ y) = fun y => if y = x then some v else m₀ y := by
      funext y
      by_cases hy : y = x
      · simp [hy]
      · simp only [if_neg hy]; exact hm y hy
    rw [e] at F₁
    exact turn i v news₁ h tk own (by simpa using hP) hoff hJ F₁ N₂
  · rintro m₁ news₁ h tk ⟨hJ, hm⟩ F₁ N₂
    refine done m₁ news₁ h tk (by simpa using hJ) ?_ N₂
    have e : (fun y => if y = x then m₁ y else m₀ y) = m₁ := by
      funext y
      by_cases hy : y = x
      · simp [hy]
      · simp only [if_neg hy]; exact (hm y hy).symm
    rw [e]; exact F₁
end
end
section
local macro_rules | `(tactic| walk_at "call ref") => `(tactic| k_extra "my call")
local macro_rules | `(tactic| walk_at "pyIter ref") => `(tactic| k_extra "my iter")
local macro_rules | `(tactic| walk_at "setItem ref str") => `(tactic| k_dflt (k_extra "my setItem str"))
local macro_rules | `(tactic| walk_at "InvEndN") => `(tactic| k_dflt (k_extra "my InvEndN"))
theorem walk_off_C6 : True := by
  w_top off
  trivial
section
set_option maxHeartbeats 1000000
def hkF (c : Int) : Option Str :=
  if 0 ≤ c - 44032 ∧ c - 44032 < 11172 then (if (c - 44032).fmod 28 = 0 then some (Str.ofString "LV") else some (Str.ofString "LVT"))
  else if (4352 ≤ c ∧ c ≤ 4447) ∨ (43360 ≤ c ∧ c ≤ 43388) then some (Str.ofString "L")
  else if (4448 ≤ c ∧ c ≤ 4519) ∨ (55216 ≤ c ∧ c ≤ 55238) then some (Str.ofString "V")
  else if (4520 ≤ c ∧ c ≤ 4607) ∨ (55243 ≤ c ∧ c ≤ 55291) then some (Str.ofString "T")
  else none
def HK (c : Int) (r : Value) : Prop := (hkF c = none ∧ r = .none) ∨ ∃ s t, hkF c = some s ∧ r = .str s t
theorem hangul_kind (w : World) (loose : List Str) (mean : ExcName → Option Value) (mg mb : Str → Option Value) (news : Led) (c : Int) (t : Tok) (hc : 0 ≤ c) (hc2 : c < 2000000) :
    GivesP w loose mean mg mb 35 2 news [.int c t] (HK c) := by
  unfold GivesP
  k_fill
  intro dp un gd cn cs a ccd cl outer A₀ base h₀ L m s Q E B F X N T hk hd hu hret
  refine wpAny_call ?_
  have cE0 := InElt.start s.heap
  k_with_none
  k_dflt k_enter
  k_steps
  all_goals refine hret _ _ _ ?_ (by assumption) (by assumption) (by assumption)
  all_goals (unfold HK hkF; first | (refine Or.inr ⟨_, _, ?_, rfl⟩; (repeat' split) <;> first | rfl | (exfalso; omega)) | (refine Or.inl ⟨?_, rfl⟩; (repeat' split) <;> first | rfl | (exfalso; omega)))
end
end
end
theorem walk_off_C4 : True := by
  w_top off
  trivial
section
set_option maxHeartbeats 400000
theorem valueAt_map (k k' : Str) (v : Value) : ∀ kvs : List (Str × Value), valueAt (kvs.map fun kv => if kv.1 = k then (kv.1, v) else kv) k' = if k = k' ∧ kvs.any (fun kv => decide (kv.1 = k)) = true then some v else valueAt kvs k'
  | [] => by simp [valueAt]
  | p :: r => by
    have ih := valueAt_map k k' v r
    unfold valueAt at ih ⊢
    simp only [List.map_cons, List.find?_cons, List.any_cons]
    by_cases h1 : p.1 = k
    · by_cases h2 : k = k'
      · simp [h1, h2]
      · have h3 : ¬ p.1 = k' := fun e => h2 (h1.symm.trans e)
        simp only [h1, if_true, h2, decide_false, false_and, if_false]
        simp only [h2, false_and, if_false] at ih
        exact ih
    · by_cases h2 : p.1 = k'
      · have h3 : ¬ k = k' := fun e => h1 (h2.trans e.symm)
        have hd : decide (p.1 = k') = true := decide_eq_true h2
        simp only [h1, if_false, hd, h3, false_and]
      · simp only [h1, if_false, h2, decide_false, Bool.false_or]
        exact ih
theorem valueAt_put (kvs : List (Str × Value)) (k k' : Str) (v : Value) : valueAt (stored kvs k v) k' = if k = k' then some v else valueAt kvs k' := by
  unfold stored
  split
  · rename_i h
    rw [valueAt_map]
    simp [h]
  · rename_i h
    unfold valueAt
    rw [List.find?_append]
    by_cases e : k = k'
    · subst e
      have : kvs.find? (fun kv => decide (kv.1 = k)) = none := by
        rw [List.find?_eq_none]
        intro x hx hd
        exact h (List.any_eq_true.mpr ⟨x, hx, hd⟩)
      simp [this]
    · simp [e]

theorem strs_get {vs : List Value} {ns : List Str} (h : StrsAre vs ns) : ∀ {i : Nat} {v : Value}, vs[i]? = some v → ∃ k t, v = .str k t ∧ ns[i]? = some k := by
  induction h with
  | nil => intro i v e; simp at e
  | cons _ _ _ ih =>
    intro i v e
    cases i with
    | zero => simp at e; exact ⟨_, _, e.symm, by simp⟩
    | succ i => simp at e; obtain ⟨k, t, a, b⟩ := ih e; exact ⟨k, t, a, by simpa using b⟩
/-- what a loop that stores under the names of a tuple has done after i turns -/
def LInv (names : List Str) (K : Value → Prop) (n0 : Nat) (kvs0 : List (Str × Value)) (i : Nat) (kvs : List (Str × Value)) : Prop :=
  kvs.length ≤ n0 + i ∧ ∀ q, (q ∈ names.take i → ∃ v, valueAt kvs q = some v ∧ K v) ∧ (q ∉ names.take i → valueAt kvs q = valueAt kvs0 q)
theorem linv_zero {names : List Str} {K : Value → Prop} {n0 : Nat} {kvs0 : List (Str × Value)} (h : kvs0.length ≤ n0) : LInv names K n0 kvs0 0 kvs0 := ⟨h, fun q => ⟨fun h => by simp at h, fun _ => rfl⟩⟩
theorem linv_step {names : List Str} {K : Value → Prop} {n0 : Nat} {kvs0 kvs : List (Str × Value)} {i : Nat} {k : Str} {v : Value} (h : LInv names K n0 kvs0 i kvs) (hk : names[i]? = some k) (hv : K v) : LInv names K n0 kvs0 (i + 1) (stored kvs k v) := by
  refine ⟨Nat.le_trans (stored_length_le _ _ _) (by have := h.1; omega), fun q => ?_⟩
  have ht : names.take (i + 1) = names.take i ++ [k] := by rw [List.take_add_one, hk]; rfl
  rw [ht, valueAt_put]
  by_cases e : k = q
  · subst e
    exact ⟨fun _ => ⟨v, by simp, hv⟩, fun h' => absurd (by simp) h'⟩
  · rw [if_neg e]
    refine ⟨fun hq => (h.2 q).1 ?_, fun hq => (h.2 q).2 fun hm => hq (List.mem_append_left _ hm)⟩
    rcases List.mem_append.mp hq with hq | hq
    · exact hq
    · exact absurd (List.mem_singleton.mp hq).symm e
theorem linv_size {names : List Str} {K : Value → Prop} {n0 : Nat} {kvs0 kvs : List (Str × Value)} {i : Nat} {k : Str} (h : LInv names K n0 kvs0 i kvs) (hk : names[i]? = some k) (hb : n0 + names.length ≤ 1000) : kvs.length ≤ sizeLine := by
  have := h.1; have := (List.getElem?_eq_some_iff.mp hk).1; rw [sizeLine_eq]; omega
theorem le_size {a b : Nat} (h : a ≤ b) (hb : b ≤ 1000) : a ≤ sizeLine := by rw [sizeLine_eq]; omega
def JD (prog : Program) (w : World) (d : Addr) (names : List Str) (K : Value → Prop) (n0 : Nat) (kvs0 : List (Str × Value)) (i : Nat) (nx : Led) : Prop :=
  ∃ o kvs, nx = [(d, o)] ∧ o.IsDictOf (strKind prog w) kvs ∧ LInv names K n0 kvs0 i kvs
theorem tok_any {α : Type} {M : Model} {A : Around} {t : Sem α} {Q : α → Shared → Prop} {E : Value → Shared → Prop} {h : Heap} {g : Array GenState} {d : Drawn} {n : Nat} {o : OsState} (H : ∀ tk, wpAny M A t Q E { heap := h, gens := g, drawn := d, toks := tk, os := o }) : wpAny M A t Q E { heap := h, gens := g, drawn := d, toks := n, os := o } := H n
structure Dflts3 (kvs : List (Str × Value)) : Prop where
  a : ∃ t, valueAt kvs (Str.ofString "gcb") = some (.str (Str.ofString "Other") t)
  b : ∃ t, valueAt kvs (Str.ofString "incb") = some (.str (Str.ofString "None") t)
  c : valueAt kvs (Str.ofString "ep") = some (.bool false)
  n : kvs.length ≤ 60
theorem dflts3_of {n1 n2 n3 n4 : Nat} {kvs0 kvs1 kvs2 kvs3 kvs4 : List (Str × Value)} {v : Value}
    (h0 : ∃ t, valueAt kvs0 (Str.ofString "incb") = some (.str (Str.ofString "None") t))
    (h1 : LInv [Str.ofString "gcb", Str.ofString "wb", Str.ofString "sb"] (fun v => ∃ t, v = Value.str (Str.ofString "Other") t) n1 kvs0 3 kvs1) (h2 : LInv [Str.ofString "ex", Str.ofString "sd", Str.ofString "cased", Str.ofString "ci", Str.ofString "ep", Str.ofString "di", Str.ofString "ids", Str.ofString "idc", Str.ofString "xids", Str.ofString "xidc", Str.ofString "pat_syn", Str.ofString "pat_ws", Str.ofString "idst"] (fun v => v = Value.bool false) n2 kvs1 13 kvs2) (h3 : LInv [Str.ofString "dm", Str.ofString "uc", Str.ofString "lc", Str.ofString "tc", Str.ofString "cf", Str.ofString "bm", Str.ofString "bpb", Str.ofString "scx", Str.ofString "nt", Str.ofString "nv", Str.ofString "name", Str.ofString "conf", Str.ofString "nfkc_cf"] (fun _ => True) n3 kvs2 13 kvs3) (h4 : LInv [Str.ofString "suc", Str.ofString "slc", Str.ofString "stc", Str.ofString "alias"] (fun _ => True) n4 kvs3 4 kvs4) (hn : n4 ≤ 50) : Dflts3 (stored kvs4 (Str.ofString "idna") v) := by
  have a4 : valueAt kvs4 (Str.ofString "gcb") = valueAt kvs1 (Str.ofString "gcb") := ((h4.2 _).2 (by decide)).trans (((h3.2 _).2 (by decide)).trans ((h2.2 _).2 (by decide)))
  have b4 : valueAt kvs4 (Str.ofString "incb") = valueAt kvs0 (Str.ofString "incb") := ((h4.2 _).2 (by decide)).trans (((h3.2 _).2 (by decide)).trans (((h2.2 _).2 (by decide)).trans ((h1.2 _).2 (by decide))))
  have c4 : valueAt kvs4 (Str.ofString "ep") = valueAt kvs2 (Str.ofString "ep") := ((h4.2 _).2 (by decide)).trans ((h3.2 _).2 (by decide))
  obtain ⟨v1, e1, t1, q1⟩ := (h1.2 (Str.ofString "gcb")).1 (by decide)
  obtain ⟨v2, e2, q2⟩ := (h2.2 (Str.ofString "ep")).1 (by decide)
  refine ⟨⟨t1, ?_⟩, ?_, ?_, ?_⟩
  · rw [valueAt_put, if_neg (by decide), a4, e1, q1]
  · obtain ⟨t, h0⟩ := h0
    exact ⟨t, by rw [valueAt_put, if_neg (by decide), b4, h0]⟩
  · rw [valueAt_put, if_neg (by decide), c4, e2, q2]
  · have := stored_length_le kvs4 (Str.ofString "idna") v
    have := h4.1
    omega
theorem ne_of_dict {prog : Program} {w : World} {h₀ h : Heap} {L ax d : Addr} {lo o : Obj} {kvs : List (Str × Value)} (N : News h₀ L h [(ax, lo), (d, o)]) (hc : lo.cls = .type "tuple") (hd : o.IsDictOf (strKind prog w) kvs) : ∀ q ∈ [(d, o)], q.1 ≠ ax := by
  intro q hq e
  rw [List.mem_singleton.mp hq] at e
  have h1 := (N (ax, lo) (List.mem_cons_self ..)).1
  have h2 := (N (d, o) (List.mem_cons_of_mem _ (List.mem_cons_self ..))).1
  rw [show d = ax from e] at h2
  have h3 : lo = o := Option.some.inj (h1.symm.trans h2)
  obtain ⟨es, ep, hx, _⟩ := hd
  have h4 : o.cls = .type "dict" := hx.1
  rw [← h3, hc] at h4
  exact absurd h4 (by decide)
theorem news_tail {h₀ h : Heap} {L : Addr} {p : Addr × Obj} {l : Led} (N : News h₀ L h (p :: l)) : News h₀ L h l := fun q hq => N q (List.mem_cons_of_mem _ hq)
local macro_rules | `(tactic| news_mem) => `(tactic| assumption)
local macro_rules | `(tactic| k_room) => `(tactic| ktr_room)
local macro_rules | `(tactic| k_enter) => `(tactic| (k_inElt; (refine' code_defG ?k1 ?k2 ?k3 ?k4 ?k5 ?kA ?kF ?kK ?k6 ?k7 ?k8 ?k9 ?kB ?_ ?c2 ?c3 ?c4 ?c5; (case kA => exact rfl); (case kF => exact rfl); (case kK => first | exact rfl | assumption); (case k1 => k_asm); (case k2 => k_asm); (case k3 => k_asm); (case k4 => k_asm); (case k5 => k_asm); (case k6 => k_is); (case k7 => k_is); (case k8 => k_room); (case k9 => first | exact BindsTo.of_eq rfl | exact binds_K (by k_in) rfl (by k_is) rfl rfl rfl | fail "k_enter: no rule for these arguments"); (case c5 => decide); (case kB => exact locs rfl); (case c2 => exact rfl); (case c3 => exact rfl); (case c4 => exact rfl); k_whole; intro g' L' h' FG' F' N' B' X' T' kG'; (try dsimp only); (try k_lift B'); (try k_fold))))
local macro_rules | `(tactic| walk_at "call ref") => `(tactic| k_extra "my call")
local macro_rules | `(tactic| walk_at "pyIter ref") => `(tactic| k_extra "my iter")
local macro_rules | `(tactic| walk_at "setItem ref str") => `(tactic| k_dflt (k_extra "my setItem str"))
local macro_rules | `(tactic| walk_at "InvEndN") => `(tactic| k_dflt (k_extra "my InvEndN"))

local macro_rules | `(tactic| walk_at "exec For Name Tuple cons nil") => `(tactic| (k_here; refine tok_any (fun tk9 => ?_); (rename Fr _ _ _ _ => lF'); k_dflt (refine' For_invVF ?kF ?k1 ?k2 ?_ ?k3 ?k4; (case kF => exact lF'); (case k1 => exact rfl); (case k2 => exact rfl); (case k3 => intro _; rfl); (case k4 => passes_own); k_whole)))
theorem data_defaults (w : World) (loose : List Str) (mean : ExcName → Option Value) (mg mb : Str → Option Value) :
    GivesN w loose mean mg mb 148 1 [] (fun r tl => ∃ d o kvs, r = .ref d ∧ tl = [(d, o)] ∧ o.IsDictOf (strKind PySem.Challenge.rw_on0368_01.row.prog w) kvs ∧ Dflts3 kvs ∧ (d == sysModules) = false) := by
  unfold GivesN
  k_fill
  intro dp un gd cn cs a ccd cl outer A₀ base h₀ L m s Q E B F X T hk hd hu hret
  have N : News h₀ L s.heap [] := News.nil
  refine wpAny_call ?_
  have cE0 := InElt.start s.heap
  k_with_none
  k_with "my iter" => (k_here; (rename Fr _ _ _ _ => lF'); (rename News _ _ _ _ => lN'); (with_unfolding_all refine' iter_invT (JD PySem.Challenge.rw_on0368_01.row.prog w _ [Str.ofString "gcb", Str.ofString "wb", Str.ofString "sb"] (fun v => ∃ t, v = Value.str (Str.ofString "Other") t) 8 _) rfl rfl rfl ?_ lF' lN' ⟨_, _, rfl, by assumption, linv_zero (Nat.le_of_ble_eq_true (by with_unfolding_all rfl))⟩ ?_ ?_); (exact ne_of_dict lN' rfl (by assumption)); intro i v news₁ h tk own hv hoff hJ F' N'; obtain ⟨o, kvs, e, hD, hI⟩ := hJ; subst e; have hq := strs_get (ns := [Str.ofString "gcb", Str.ofString "wb", Str.ofString "sb"]) (.cons _ _ (.cons _ _ (.cons _ _ .nil))) hv; clear hv; obtain ⟨k, t, e, hk⟩ := hq; subst e; (try simp only [List.nil_append, List.cons_append] at N'); (try k_fold); rotate_left; intro u news₁ h tk hJ F' N'; obtain ⟨o, kvs, e, hD, hI1⟩ := hJ; subst e; (try k_fold); rotate_right)
  k_with "my iter" => (k_here; (rename Fr _ _ _ _ => lF'); (rename News _ _ _ _ => lN'); (with_unfolding_all refine' iter_invT (JD PySem.Challenge.rw_on0368_01.row.prog w _ [Str.ofString "ex", Str.ofString "sd", Str.ofString "cased", Str.ofString "ci", Str.ofString "ep", Str.ofString "di", Str.ofString "ids", Str.ofString "idc", Str.ofString "xids", Str.ofString "xidc", Str.ofString "pat_syn", Str.ofString "pat_ws", Str.ofString "idst"] (fun v => v = Value.bool false) 11 _) rfl rfl rfl ?_ lF' lN' ⟨_, _, rfl, by assumption, linv_zero (Nat.le_trans hI1.1 (Nat.le_of_ble_eq_true rfl))⟩ ?_ ?_); (exact ne_of_dict lN' rfl (by assumption)); intro i v news₁ h tk own hv hoff hJ F' N'; obtain ⟨o, kvs, e, hD, hI⟩ := hJ; subst e; have hq := strs_get (ns := [Str.ofString "ex", Str.ofString "sd", Str.ofString "cased", Str.ofString "ci", Str.ofString "ep", Str.ofString "di", Str.ofString "ids", Str.ofString "idc", Str.ofString "xids", Str.ofString "xidc", Str.ofString "pat_syn", Str.ofString "pat_ws", Str.ofString "idst"]) (.cons _ _ (.cons _ _ (.cons _ _ (.cons _ _ (.cons _ _ (.cons _ _ (.cons _ _ (.cons _ _ (.cons _ _ (.cons _ _ (.cons _ _ (.cons _ _ (.cons _ _ .nil))))))))))))) hv; clear hv; obtain ⟨k, t, e, hk⟩ := hq; subst e; (try simp only [List.nil_append, List.cons_append] at N'); (try k_fold); rotate_left; intro u news₁ h tk hJ F' N'; obtain ⟨o, kvs, e, hD, hI2⟩ := hJ; subst e; (try k_fold); rotate_right)
  k_with "my iter" => (k_here; (rename Fr _ _ _ _ => lF'); (rename News _ _ _ _ => lN'); (with_unfolding_all refine' iter_invT (JD PySem.Challenge.rw_on0368_01.row.prog w _ [Str.ofString "dm", Str.ofString "uc", Str.ofString "lc", Str.ofString "tc", Str.ofString "cf", Str.ofString "bm", Str.ofString "bpb", Str.ofString "scx", Str.ofString "nt", Str.ofString "nv", Str.ofString "name", Str.ofString "conf", Str.ofString "nfkc_cf"] (fun _ => True) 24 _) rfl rfl rfl ?_ lF' lN' ⟨_, _, rfl, by assumption, linv_zero (Nat.le_trans hI2.1 (Nat.le_of_ble_eq_true rfl))⟩ ?_ ?_); (exact ne_of_dict lN' rfl (by assumption)); intro i v news₁ h tk own hv hoff hJ F' N'; obtain ⟨o, kvs, e, hD, hI⟩ := hJ; subst e; have hq := strs_get (ns := [Str.ofString "dm", Str.ofString "uc", Str.ofString "lc", Str.ofString "tc", Str.ofString "cf", Str.ofString "bm", Str.ofString "bpb", Str.ofString "scx", Str.ofString "nt", Str.ofString "nv", Str.ofString "name", Str.ofString "conf", Str.ofString "nfkc_cf"]) (.cons _ _ (.cons _ _ (.cons _ _ (.cons _ _ (.cons _ _ (.cons _ _ (.cons _ _ (.cons _ _ (.cons _ _ (.cons _ _ (.cons _ _ (.cons _ _ (.cons _ _ .nil))))))))))))) hv; clear hv; obtain ⟨k, t, e, hk⟩ := hq; subst e; (try simp only [List.nil_append, List.cons_append] at N'); (try k_fold); rotate_left; intro u news₁ h tk hJ F' N'; obtain ⟨o, kvs, e, hD, hI3⟩ := hJ; subst e; (try k_fold); rotate_right)
  k_with "my iter" => (k_here; (rename Fr _ _ _ _ => lF'); (rename News _ _ _ _ => lN'); (with_unfolding_all refine' iter_invT (JD PySem.Challenge.rw_on0368_01.row.prog w _ [Str.ofString "suc", Str.ofString "slc", Str.ofString "stc", Str.ofString "alias"] (fun _ => True) 37 _) rfl rfl rfl ?_ lF' lN' ⟨_, _, rfl, by assumption, linv_zero (Nat.le_trans hI3.1 (Nat.le_of_ble_eq_true rfl))⟩ ?_ ?_); (exact ne_of_dict lN' rfl (by assumption)); intro i v news₁ h tk own hv hoff hJ F' N'; obtain ⟨o, kvs, e, hD, hI⟩ := hJ; subst e; have hq := strs_get (ns := [Str.ofString "suc", Str.ofString "slc", Str.ofString "stc", Str.ofString "alias"]) (.cons _ _ (.cons _ _ (.cons _ _ (.cons _ _ .nil)))) hv; clear hv; obtain ⟨k, t, e, hk⟩ := hq; subst e; (try simp only [List.nil_append, List.cons_append] at N'); (try k_fold); rotate_left; intro u news₁ h tk hJ F' N'; obtain ⟨o, kvs, e, hD, hI4⟩ := hJ; subst e; (try k_fold); rotate_right)

  k_with "my setItem str" => first | ((rename News _ _ _ _ => lN9); (refine' kda_set (knd := strKind _ _) ?F lN9 ?U ?d (strKind_is _ _ _ _) ?z ?_); (case F => k_asm); (case U => k_updF); (case d => k_asm); (case z => first | exact linv_size hI hk (by decide) | exact le_size hI4.1 (Nat.le_of_ble_eq_true rfl)); clear lN9; intro h' o' F' N' hd'; (try dsimp only at N')) | ((rename News _ _ _ _ => lN9); (refine' kda_set (knd := strKind _ _) ?F (news_tail lN9) ?U ?d (strKind_is _ _ _ _) ?z ?_); (case F => k_asm); (case U => k_updF); (case d => k_asm); (case z => first | exact linv_size hI hk (by decide) | exact le_size hI4.1 (Nat.le_of_ble_eq_true rfl)); clear lN9; intro h' o' F' N' hd'; (try dsimp only at N')) | ((rename News _ _ _ _ => lN9); (refine' kda_set (knd := strKind _ _) ?F (news_tail (news_tail lN9)) ?U ?d (strKind_is _ _ _ _) ?z ?_); (case F => k_asm); (case U => k_updF); (case d => k_asm); (case z => first | exact linv_size hI hk (by decide) | exact le_size hI4.1 (Nat.le_of_ble_eq_true rfl)); clear lN9; intro h' o' F' N' hd'; (try dsimp only at N'))
  k_with "my InvEndN" => (refine InvEndN.intro F' N' ⟨⟨_, _, rfl, hd', linv_step hI hk (by first | exact ⟨_, rfl⟩ | rfl | trivial)⟩, fun z h1 => if_neg h1⟩ rfl (fun p hp => by rw [List.mem_singleton.mp hp]; exact List.mem_cons_self ..) (fun p hp => List.mem_cons_of_mem _ hp))
  k_dflt k_enter
  k_steps
  exact hret _ _ _ _ ⟨_, _, _, rfl, rfl, hd', dflts3_of ⟨_, by with_unfolding_all rfl⟩ hI1 hI2 hI3 hI4 (by decide), by assumption⟩ (fresh_of (by assumption) N') (by assumption) (by assumption) (by assumption)
end
section
local macro_rules | `(tactic| walk_at $s:str) => `(tactic| k_dflt (k_extra $s))
local macro_rules | `(tactic| walk1) => `(tactic| ((with_reducible show wpAny _ _ (subscriptTail _ _ (Value.ref _) (Value.int _ _)) _ _ _); k_dflt (k_extra "my item")))
local macro_rules | `(tactic| walk1) => `(tactic| ((with_reducible show wpAny _ _ (subscriptTail (Expr.Name _ _) _ (Value.ref _) (Value.ref _)) _ _ _); k_dflt (k_extra "my slice")))
local macro_rules | `(tactic| walk1) => `(tactic| ((with_reducible show wpAny _ _ (binaryOp _ (Value.ref _) (Value.ref _)) _ _ _); k_dflt (k_extra "my add")))
local macro_rules | `(tactic| walk1) => `(tactic| ((with_reducible show wpAny _ _ (subscriptTail _ _ (Value.ref _) (Value.str _ _)) _ _ _); k_dflt (k_extra "my key")))
section
local macro_rules | `(tactic| news_mem) => `(tactic| assumption)
local macro_rules | `(tactic| k_all) => `(tactic| assumption)
local macro_rules | `(tactic| k_mem) => `(tactic| assumption)
local macro_rules | `(tactic| walk1) => `(tactic| ((with_reducible show (if _ then _ else _)); k_dflt (first | refine ite_neg Bool.false_ne_true ?_ | refine ite_pos (by assumption) ?_ | refine ite_neg (by assumption) ?_ | refine ite_neg (Bool.eq_false_iff.mp (by assumption)) ?_ | refine ite_pos (by omega) ?_ | refine ite_neg (by omega) ?_)))
theorem walk_off_C5 : True := by
  w_top off
  trivial
section
set_option maxHeartbeats 1000000
theorem strs_app {vs ws : List Value} {V U : List Str} (h : StrsAre vs V) (h2 : StrsAre ws U) : StrsAre (vs ++ ws) (V ++ U) := by
  induction h with
  | nil => exact h2
  | cons y t _ ih => exact .cons y t ih
section
variable {prog : Program} {w : World} {A : Around} {E : Value → Shared → Prop} {s : Shared} {h₀ : Heap} {L D l a b : Addr} {m : Str → Option Value} {news news' : Led} {vs ws : List Value} {V U : List Str} {S T : List Int} {n n2 : Nat} {k x y : Int} {t u : Tok} {Q : Value → Shared → Prop}
theorem item_strs {value slice : PySem.Expr} (N : News h₀ L s.heap news) (hm : (D, listOf vs.toArray n) ∈ news) (hb : StrsAre vs V) {v : Str} (h0 : 0 ≤ k) (h1 : k < V.length) (hfit : V.length < 2 ^ 30) (hv : V.getD k.toNat Str.empty = v) (h : ∀ t, Q (.str v t) s)
    (hs : subscripted slice false (.ref D) (.int k u) = operate [.ref D, .int k u] (getItem (.ref D) (.int k u)) := by with_unfolding_all rfl) :
    wpAny (model prog w) A (subscriptTail value slice (.ref D) (.int k u)) Q E s := by
  have hk : k.toNat < V.length := by omega
  obtain ⟨t, ht⟩ := hb.get k.toNat _ (List.getElem?_eq_getElem hk)
  subst hv
  have e : V.getD k.toNat Str.empty = V[k.toNat] := by simp [List.getD, hk]
  refine tail_any (PySem.IsL.isList (n := n) (N _ hm).1).typeIs slot_list_getitem.lookup (wpAny_getItem_list (PySem.IsL.isList (n := n) (N _ hm).1) h0 (by omega) (by simpa using ht) ?_) hs
  rw [← e]
  exact h t
theorem strs_take {vs : List Value} {V : List Str} (h : StrsAre vs V) : ∀ k : Nat, StrsAre (vs.take k) (V.take k) := by
  induction h with
  | nil => intro k; simp; exact .nil
  | cons y t _ ih =>
    intro k
    cases k with
    | zero => exact .nil
    | succ k => exact .cons y t (ih k)
end
theorem like_ne (w : World) (loose : List Str) (mean : ExcName → Option Value) (mg mb : Str → Option Value) (news : Led) (x y : Str) (t1 t2 : Tok) (hxy : x ≠ y) :
    GivesP w loose mean mg mb 92 1 news [.str x t1, .str y t2] (fun r => r = .bool false) := by
  unfold GivesP
  k_fill
  intro dp un gd cn cs a ccd cl outer A₀ base h₀ L m s Q E B F X N T hk hd hu hret
  refine wpAny_call ?_
  have cE0 := InElt.start s.heap
  have hxyb : (x == y) = false := beq_false_of_ne hxy
  k_with_none
  k_dflt k_enter
  k_steps
  exact hret _ _ _ (congrArg Value.bool hxyb) (by assumption) (by assumption) (by assumption)
abbrev rmDict (h1 h2 h3 : Int) (k1 k2 k3 : Tok) (D : Value) (ls lv : Addr) : Obj := dictOf [⟨h1, .str (Str.ofString "default") k1, D⟩, ⟨h2, .str (Str.ofString "starts") k2, .ref ls⟩, ⟨h3, .str (Str.ofString "values") k3, .ref lv⟩] 3
end
theorem walk_off_C7 : True := by
  w_top off
  trivial
section
set_option maxHeartbeats 1000000
section
variable {prog : Program} {w : World} {A : Around} {E : Value → Shared → Prop} {s : Shared} {h₀ : Heap} {L D : Addr} {news : List (Addr × Obj)} {vs : List Value} {n : Nat} {k : Int} {u : Tok} {Q : Value → Shared → Prop}
theorem item_any {value slice : PySem.Expr} (N : News h₀ L s.heap news) (hm : (D, listOf vs.toArray n) ∈ news) {v : Value} (h0 : 0 ≤ k) (h1 : k < vs.length) (hfit : vs.length < 2 ^ 30) (hv : vs[k.toNat]? = some v) (h : Q v s)
    (hs : subscripted slice false (.ref D) (.int k u) = operate [.ref D, .int k u] (getItem (.ref D) (.int k u)) := by with_unfolding_all rfl) :
    wpAny (model prog w) A (subscriptTail value slice (.ref D) (.int k u)) Q E s :=
  tail_any (PySem.IsL.isList (n := n) (N _ hm).1).typeIs slot_list_getitem.lookup (wpAny_getItem_list (PySem.IsL.isList (n := n) (N _ hm).1) h0 (by omega) (by simpa using hv) h) hs
end
theorem rm_get (w : World) (loose : List Str) (mean : ExcName → Option Value) (mg mb : Str → Option Value) (news : Led) (x dx ls lv : Addr) (h1 h2 h3 : Int) (k1 k2 k3 : Tok) (D : Value) (vS vV : List Value) (S : List Int) (nS nV : Nat) (c : Int) (t1 : Tok)
    (hx : (x, instObj 137 dx) ∈ news) (hdx : (dx, rmDict h1 h2 h3 k1 k2 k3 D ls lv) ∈ news) (hls : (ls, listOf vS.toArray nS) ∈ news) (hlv : (lv, listOf vV.toArray nV) ∈ news)
    (hiS : IntsAre vS S) (hs : S.Pairwise (· ≤ ·)) (hlen : S.length < 1000) (hlV : vV.length = S.length) (hlo : 0 < cnt S c) :
    GivesP w loose mean mg mb 113 2 news [.ref x, .int c t1] (fun r => vV[cnt S c - 1]? = some r) := by
  unfold GivesP
  k_fill
  intro dp un gd cn cs a ccd cl outer A₀ base h₀ L m s Q E B F X N T hk hd hu hret
  refine wpAny_call ?_
  have cE0 := InElt.start s.heap
  have hcl1 := cnt_le S c
  have hv9 := List.getElem?_eq_getElem (l := vV) (i := cnt S c - 1) (by omega)
  k_with_none
  k_with "call ref" => (refine' GivesP.use (pbh _ _ _ _ _ _ _ _ _ _ _ _  ?hl ?hi ?hs ?hlen) ?k1 ?k2 ?k3 ?k4 ?k5 ?kK ?kd ?ku ?_; (case k2 => k_asm); (case k4 => k_asm); (case hl => k_mem); (case hi => assumption); (case hs => assumption); (case hlen => omega); (case k1 => k_asm); (case k3 => k_asm); (case k5 => k_asm); (case kK => first | exact rfl | assumption); (case kd => ktr_room); (case ku => ktr_units); intro r9 h9 tk9 R9 F9 N9 E9; clear E9; obtain ⟨t9, e9⟩ := R9; subst e9; (try dsimp only); (try k_fold))
  k_with "my item" => (refine' item_any (v := vV[cnt S c - 1]) ?N ?m ?h0 ?h1 ?hf ?hv ?_; (case N => k_asm); (case m => k_mem); (case h0 => omega); (case h1 => omega); (case hf => omega); (case hv => exact (congrArg (fun i => vV[i]?) (by omega)).trans hv9))
  k_dflt k_enter
  k_steps
  exact hret _ _ _ hv9 (by assumption) (by assumption) (by assumption)
theorem key_item {prog : Program} {w : World} {A : Around} {E : Value → Shared → Prop} {s : Shared} {h₀ : Heap} {L d : Addr} {news : List (Addr × Obj)} {o : Obj} {kvs : List (Str × Value)} {k : Str} {t : Tok} {v : Value} {value slice : PySem.Expr} {Q : Value → Shared → Prop} (N : News h₀ L s.heap news) (hp : (d, o) ∈ news) (hd : o.IsDictOf (strKind prog w) kvs) (hl : valueAt kvs k = some v) (h : Q v { s with toks := s.toks + 1 })
    (hs : subscripted slice false (.ref d) (.str k t) = operate [.ref d, .str k t] (getItem (.ref d) (.str k t)) := by with_unfolding_all rfl) : wpAny (model prog w) A (subscriptTail value slice (.ref d) (.str k t)) Q E s :=
  kba_turn (value' := PySem.Expr.Name (PySem.Str.ofString "_") ⟨0, 0, 0, 0⟩) (fun _ => rfl) (kda_item N hp hd (strKind_is _ _ _ _) hl h hs (fun _ => rfl))
abbrev dtDict (h1 h2 h3 h4 : Int) (k1 k2 k3 k4 : Tok) (od om op ow : Addr) : Obj := dictOf [⟨h1, .str (Str.ofString "defaults") k1, .ref od⟩, ⟨h2, .str (Str.ofString "maps") k2, .ref om⟩, ⟨h3, .str (Str.ofString "properties") k3, .ref op⟩, ⟨h4, .str (Str.ofString "words") k4, .ref ow⟩] 4
theorem data_get (w : World) (loose : List Str) (mean : ExcName → Option Value) (mg mb : Str → Option Value) (news : Led) (x dx od om op ow r dr ls lv : Addr) (h1 h2 h3 h4 g1 g2 g3 : Int) (k1 k2 k3 k4 j1 j2 j3 : Tok) (D : Value) (vS vV : List Value) (S : List Int) (nS nV : Nat) (c : Int) (t1 tn : Tok) (O : Obj) (kvs : List (Str × Value)) (nm : Str)
    (hx : (x, instObj 186 dx) ∈ news) (hdx : (dx, dtDict h1 h2 h3 h4 k1 k2 k3 k4 od om op ow) ∈ news) (hom : (om, O) ∈ news) (hO : O.IsDictOf (strKind PySem.Challenge.rw_on0368_01.row.prog w) kvs) (hmo : (om == sysModules) = false) (hv : valueAt kvs nm = some (.ref r))
    (hx9 : (r, instObj 137 dr) ∈ news) (hdx9 : (dr, rmDict g1 g2 g3 j1 j2 j3 D ls lv) ∈ news) (hls : (ls, listOf vS.toArray nS) ∈ news) (hlv : (lv, listOf vV.toArray nV) ∈ news)
    (hiS : IntsAre vS S) (hs : S.Pairwise (· ≤ ·)) (hlen : S.length < 1000) (hlV : vV.length = S.length) (hlo : 0 < cnt S c) :
    GivesP w loose mean mg mb 176 3 news [.ref x, .str nm tn, .int c t1] (fun r => vV[cnt S c - 1]? = some r) := by
  unfold GivesP
  k_fill
  intro dp un gd cn cs a ccd cl outer A₀ base h₀ L m s Q E B F X N T hk hd hu hret
  refine wpAny_call ?_
  have cE0 := InElt.start s.heap
  k_with_none
  k_with "compareOp In str ref" => (refine' kda_in (knd := PySem.strKind _ _) ?N ?hp ?hd ?lo (strKind_is _ _ _ _) true ?hb ?_; (case N => k_asm); (case hp => exact hom); (case hd => exact hO); (case lo => exact hmo); (case hb => rw [hv]; rfl))
  k_with "my key" => (refine' key_item ?N ?hp ?hd ?hl ?_; (case N => k_asm); (case hp => exact hom); (case hd => exact hO); (case hl => exact hv))
  k_with "call ref" => (refine' GivesP.use (rm_get _ _ _ _ _ _ _ _ _ _ _ _ _ _ _ _ _ _ _ _ _ _ _ _  ?hx ?hdx ?hls ?hlv ?hiS ?hs ?hlen ?hlV ?hlo) ?k1 ?k2 ?k3 ?k4 ?k5 ?kK ?kd ?ku ?_; (case k2 => k_asm); (case k4 => k_asm); (case hx => assumption); (case hdx => assumption); (case hls => assumption); (case hlv => assumption); (case hiS => assumption); (case hs => assumption); (case hlen => assumption); (case hlV => assumption); (case hlo => assumption); (case k1 => k_asm); (case k3 => k_asm); (case k5 => k_asm); (case kK => first | exact rfl | assumption); (case kd => ktr_room); (case ku => ktr_units); intro r9 h9 tk9 R9 F9 N9 E9; clear E9; skip; (try dsimp only); (try k_fold))
  k_dflt k_enter
  k_steps
  exact hret _ _ _ (by assumption) (by assumption) (by assumption) (by assumption)
end
theorem walk_off_CJ : True := by
  w_top off
  trivial
section
set_option maxHeartbeats 1000000
theorem like_neB (w : World) (loose : List Str) (mean : ExcName → Option Value) (mg mb : Str → Option Value) (news : Led) :
    GivesP w loose mean mg mb 92 1 news [.bool false, .bool true] (fun r => r = .bool false) := by
  unfold GivesP
  k_fill
  intro dp un gd cn cs a ccd cl outer A₀ base h₀ L m s Q E B F X N T hk hd hu hret
  refine wpAny_call ?_
  have cE0 := InElt.start s.heap
  k_with_none
  k_dflt k_enter
  k_steps
  exact hret _ _ _ rfl (by assumption) (by assumption) (by assumption)
section
variable {prog : Program} {w : World} {A : Around} {E : Value → Shared → Prop} {s : Shared} {h₀ : Heap} {L D a b : Addr} {m : Str → Option Value} {news : List (Addr × Obj)} {vs ws : List Value} {n n2 : Nat} {x y : Int} {t : Tok} {Q : Value → Shared → Prop}
theorem slice_upto_any {value slice : PySem.Expr} (F : Fr h₀ L s.heap m) (N : News h₀ L s.heap news) (hm : (D, listOf vs.toArray n) ∈ news) {j : Nat} (h0 : 0 ≤ y) (hz : vs.length < 2 ^ 20) (hj : y.toNat = j)
    (h : ∀ D' h', Fr h₀ L h' m → News h₀ L h' ((D', listOf (List.toArray (vs.take j)) 0) :: news) → (∀ p ∈ news, p.1 < D') → Q (.ref D') { s with heap := h' })
    (hs : subscripted slice false (.ref D) (.ref s.heap.objs.size) = operate [.ref s.heap.objs.size, .ref D] (getItem (.ref D) (.ref s.heap.objs.size))) (ht : ∀ r, letTemporaryGo value (.ref D) r = pure ()) :
    wpAny (model prog w) A (subscriptTail value slice (.ref D) (.ref s.heap.objs.size)) Q E { s with heap := s.heap.push { cls := .type "slice", data := .fields #[.none, .int y t, .none] } } := by
  subst hj
  refine kmk_slice_lit (zs := vs.take y.toNat) F N (PySem.IsL.isList (n := n) (N _ hm).1) .none (.int y t) ?_ h hs ht (by rw [List.size_toArray, sizeLine_eq]; omega)
  have e : sliceBounds none (some y) none vs.toArray.size = (((0 : Nat) : Int), ((min y.toNat vs.toArray.size : Nat) : Int), 1) := by
    simp only [sliceBounds, Option.getD_none, show (1 : Int) > 0 by decide, if_true, if_neg (show ¬ (y < 0) by omega)]
    congr 1
    congr 1
    omega
  rw [kmk_pick_nat _ e]
  show (vs.drop 0).take (min y.toNat vs.toArray.size - 0) = _
  rw [List.drop_zero, Nat.sub_zero, List.size_toArray, kmk_take_min]
theorem slice_from_any {value slice : PySem.Expr} (F : Fr h₀ L s.heap m) (N : News h₀ L s.heap news) (hm : (D, listOf vs.toArray n) ∈ news) {j : Nat} (h0 : 0 ≤ x) (hz : vs.length < 2 ^ 20) (hj : x.toNat = j)
    (h : ∀ D' h', Fr h₀ L h' m → News h₀ L h' ((D', listOf (List.toArray (vs.drop j)) 0) :: news) → (∀ p ∈ news, p.1 < D') → Q (.ref D') { s with heap := h' })
    (hs : subscripted slice false (.ref D) (.ref s.heap.objs.size) = operate [.ref s.heap.objs.size, .ref D] (getItem (.ref D) (.ref s.heap.objs.size))) (ht : ∀ r, letTemporaryGo value (.ref D) r = pure ()) :
    wpAny (model prog w) A (subscriptTail value slice (.ref D) (.ref s.heap.objs.size)) Q E { s with heap := s.heap.push { cls := .type "slice", data := .fields #[.int x t, .none, .none] } } := by
  subst hj
  refine kmk_slice_lit (zs := vs.drop x.toNat) F N (PySem.IsL.isList (n := n) (N _ hm).1) (.int x t) .none ?_ h hs ht (by rw [List.size_toArray, sizeLine_eq]; omega)
  have e : sliceBounds (some x) none none vs.toArray.size = (((min x.toNat vs.toArray.size : Nat) : Int), ((vs.toArray.size : Nat) : Int), 1) := by
    simp only [sliceBounds, Option.getD_none, show (1 : Int) > 0 by decide, if_true, if_neg (show ¬ (x < 0) by omega)]
    congr 1
    omega
  rw [kmk_pick_nat _ e]
  show (vs.drop (min x.toNat vs.toArray.size)).take (vs.toArray.size - min x.toNat vs.toArray.size) = _
  rw [List.size_toArray, kmk_drop_min, List.take_of_length_le (by rw [List.length_drop]; omega)]
theorem add_any (F : Fr h₀ L s.heap m) (N : News h₀ L s.heap news) (ha : (a, listOf vs.toArray n) ∈ news) (hb : (b, listOf ws.toArray n2) ∈ news) (hz : vs.length + ws.length < 2 ^ 20)
    (h : ∀ D h', Fr h₀ L h' m → News h₀ L h' ((D, listOf (List.toArray (vs ++ ws)) 0) :: news) → (∀ p ∈ news, p.1 < D) → Q (.ref D) { s with heap := h' }) : wpAny (model prog w) A (binaryOp .Add (.ref a) (.ref b)) Q E s :=
  add_lists F N (PySem.IsL.isList (n := n) (N _ ha).1) (PySem.IsL.isList (n := n2) (N _ hb).1) (fun h' F' N' => h _ h' F' N' (fun p hp => Heap.lt_size (N p hp).1)) (by rw [sizeLine_eq]; omega)
end
theorem rm_putG (w : World) (loose : List Str) (mean : ExcName → Option Value) (mg mb : Str → Option Value) (rest : Led) (x dx ls lv : Addr) (h1 h2 h3 : Int) (k1 k2 k3 : Tok) (D : Value) (vS vV : List Value) (S : List Int) (nS nV : Nat) (c : Int) (t1 t2 : Tok) (val b b2 : Value)
    (hx : (x, instObj 137 dx) ∈ rest) (hls : (ls, listOf vS.toArray nS) ∈ rest) (hlv : (lv, listOf vV.toArray nV) ∈ rest) (hne : ∀ p ∈ rest, p.1 ≠ dx)
    (hiS : IntsAre vS S) (hs : S.Pairwise (· ≤ ·)) (hlen : S.length < 1000) (hlV : vV.length = S.length)
    (hc0 : 0 < c) (hc1 : c < 1114111) (hlo : 0 < cnt S (c - 1)) (hhi : 0 < cnt S (c + 1)) (hb : vV[cnt S (c + 1) - 1]? = some b) (hb2 : vV[cnt S (c - 1) - 1]? = some b2)
    (hk1 : ∀ news, GivesP w loose mean mg mb 92 1 news [b, val] (fun r => r = .bool false)) (hk2 : ∀ news, GivesP w loose mean mg mb 92 1 news [b2, val] (fun r => r = .bool false)) :
    Gives w loose mean mg mb 120 3 ((dx, rmDict h1 h2 h3 k1 k2 k3 D ls lv) :: rest) [.ref x, .int c t1, .int c t2, val]
      (fun r news' => r = .none ∧ ∃ ls' lv' vS', news' = (ls', listOf (List.toArray vS') 0) :: (lv', listOf (List.toArray (vV.take (cnt S (c - 1)) ++ [val, b] ++ vV.drop (cnt S (c + 1)))) 0) :: (dx, rmDict h1 h2 h3 k1 k2 k3 D ls' lv') :: rest ∧ IntsAre vS' (S.take (cnt S (c - 1)) ++ [c, c + 1] ++ S.drop (cnt S (c + 1)))
        ∧ AllLt ls' ((dx, rmDict h1 h2 h3 k1 k2 k3 D ls lv) :: rest) ∧ AllLt lv' ((dx, rmDict h1 h2 h3 k1 k2 k3 D ls lv) :: rest) ∧ ls' ≠ lv') := by
  unfold Gives
  k_fill
  intro dp un gd cn cs a ccd cl outer A₀ base h₀ L m s Q E B F X N T hk hd hu hret
  refine wpAny_call ?_
  have cE0 := InElt.start s.heap
  have hcl1 := cnt_le S (c + 1)
  have hcl2 := cnt_le S (c - 1)
  have hlS := hiS.length
  k_with_none
  k_with "call ref" => (first | (refine' GivesP.use (pbh _ _ _ _ _ _ _ _ _ _ _ _ ?hl ?hi ?hs ?hlen) ?k1 ?k2 ?k3 ?k4 ?k5 ?kK ?kd ?ku ?_; (case k2 => k_asm); (case k4 => k_asm); (case hl => k_mem); (case hi => assumption); (case hs => assumption); (case hlen => omega); (case k1 => k_asm); (case k3 => k_asm); (case k5 => k_asm); (case kK => first | exact rfl | assumption); (case kd => ktr_room); (case ku => ktr_units); intro r9 h9 tk9 R9 F9 N9 E9; obtain ⟨t9, e9⟩ := R9; subst e9; (try dsimp only); (try k_fold)) | ((first | refine' GivesP.use (hk1 _) ?k1 ?k2 ?k3 ?k4 ?k5 ?kK ?kd ?ku ?_ | refine' GivesP.use (hk2 _) ?k1 ?k2 ?k3 ?k4 ?k5 ?kK ?kd ?ku ?_); (case k2 => k_asm); (case k4 => k_asm); (case k1 => k_asm); (case k3 => k_asm); (case k5 => k_asm); (case kK => first | exact rfl | assumption); (case kd => ktr_room); (case ku => ktr_units); intro r9 h9 tk9 R9 F9 N9 E9; subst R9; (try dsimp only); (try k_fold)))
  k_with "my item" => (first | (refine' item_any (v := b) ?N ?m ?h0 ?h1 ?hf ?hv ?_; (case N => k_asm); (case m => k_mem); (case h0 => omega); (case h1 => omega); (case hf => omega); (case hv => exact (congrArg (fun i => vV[i]?) (show _ = cnt S (c + 1) - 1 by omega)).trans hb)) | (refine' item_any (v := b2) ?N ?m ?h0 ?h1 ?hf ?hv ?_; (case N => k_asm); (case m => k_mem); (case h0 => omega); (case h1 => omega); (case hf => omega); (case hv => exact (congrArg (fun i => vV[i]?) (show _ = cnt S (c - 1) - 1 by omega)).trans hb2)))
  k_with "my slice" => ((first | (refine' slice_upto_any (j := cnt S (c - 1)) ?F ?N ?m ?h0 ?hz ?hj ?_ ?s ?t; (case N => k_asm); (case m => k_mem); (case F => k_asm); (case h0 => omega); (case hz => omega); (case hj => omega); (case s => with_unfolding_all rfl); (case t => (intro _; with_unfolding_all rfl))) | (refine' slice_from_any (j := cnt S (c + 1)) ?F ?N ?m ?h0 ?hz ?hj ?_ ?s ?t; (case N => k_asm); (case m => k_mem); (case F => k_asm); (case h0 => omega); (case hz => omega); (case hj => omega); (case s => with_unfolding_all rfl); (case t => (intro _; with_unfolding_all rfl)))); intro D' h' F' N' l1; (try k_lt l1); (try k_sweep))
  k_with "my add" => ((rename News _ _ _ _ => lN9); (try simp only [List.push_toArray, List.cons_append, List.nil_append] at lN9); refine' add_any ?F ?N ?a ?b ?hz ?_; (case N => k_asm); (case a => k_mem); (case b => k_mem); (case F => k_asm); (case hz => (simp only [List.length_append, List.length_cons, List.length_nil, List.length_take, List.length_drop]; omega)); intro D' h' F' N' l1; have hR' : AllLt D' rest := allLt_of (fun p hp => l1 p (by repeat (first | exact hp | refine List.mem_cons_of_mem _ ?_))); (try k_lt l1); (try k_sweep))
  k_dflt k_enter
  k_steps
  all_goals (rename News _ _ _ _ => kN9; refine' hret _ _ _ _ ⟨rfl, _, _, _, rfl, ?hS, ?l1, ?l2, ?l3⟩ ?hF (cb_drop kN9 ?sub))
  case sub =>
    refine List.forall_mem_cons.mpr ⟨?a, List.forall_mem_cons.mpr ⟨?b, List.forall_mem_cons.mpr ⟨?c, ?d⟩⟩⟩
    case c => k_memK
    case a => k_memK
    case b => k_memK
    case d => exact fun p hp => by repeat (first | exact hp | refine List.mem_cons_of_mem _ ?_)
  case hS => exact IntsAre.append (IntsAre.append (hiS.take _) (IntsAre.cons _ _ (IntsAre.cons _ _ IntsAre.nil))) (hiS.drop _)
  case hF => assumption
  case l1 => exact ⟨by omega, by assumption⟩
  case l2 => exact ⟨by omega, by assumption⟩
  case l3 => k_ne
theorem Gives.perm {w : World} {loose : List Str} {mean : ExcName → Option Value} {mg mb : Str → Option Value} {f : Addr} {sz : Nat} {news news2 : Led} {vs : List Value} {R R' : Value → Led → Prop} (C : Gives w loose mean mg mb f sz news vs R) (hp : ∀ p ∈ news, p ∈ news2) (h : ∀ r n', R r n' → ∃ n2, R' r n2 ∧ ∀ p ∈ n2, p ∈ n') : Gives w loose mean mg mb f sz news2 vs R' := by
  intro dp un gd cn cs a ccd cl outer A₀ base h₀ L m s Q E B F X N T hk hd hu hret
  refine C dp un gd cn cs a ccd cl outer A₀ base h₀ L m s Q E B F X (fun p q => N p (hp p q)) T hk hd hu fun r n' h' tk' hR F' N' => ?_
  obtain ⟨n2, h2, h3⟩ := h r n' hR
  exact hret r n2 h' tk' h2 F' (fun p q => N' p (h3 p q))
theorem lt_perm {D : Addr} {l l2 : Led} (h : AllLt D l) (k : ∀ p ∈ l2, p ∈ l) : AllLt D l2 := allLt_of fun p hp => ktn_ltOf h p (k p hp)
section
variable {d : Addr} {pre post : Led}
theorem split_sub {o : Obj} : ∀ p ∈ (d, o) :: (pre ++ post), p ∈ pre ++ (d, o) :: post := fun p hp => by
  rcases List.mem_cons.mp hp with e | hp
  · exact e ▸ List.mem_append_right _ (List.mem_cons_self ..)
  · rcases List.mem_append.mp hp with hp | hp
    · exact List.mem_append_left _ hp
    · exact List.mem_append_right _ (List.mem_cons_of_mem _ hp)
theorem split_sup {o : Obj} : ∀ p ∈ pre ++ (d, o) :: post, p ∈ (d, o) :: (pre ++ post) := fun p hp => by
  rcases List.mem_append.mp hp with hp | hp
  · exact List.mem_cons_of_mem _ (List.mem_append_left _ hp)
  · rcases List.mem_cons.mp hp with e | hp
    · exact e ▸ List.mem_cons_self ..
    · exact List.mem_cons_of_mem _ (List.mem_append_right _ hp)
theorem split_rest {o : Obj} {q : Addr × Obj} (h : q ∈ pre ++ (d, o) :: post) (hn : q.1 ≠ d) : q ∈ pre ++ post := by
  rcases List.mem_append.mp h with hp | hp
  · exact List.mem_append_left _ hp
  · rcases List.mem_cons.mp hp with e | hp
    · exact absurd (e ▸ rfl) hn
    · exact List.mem_append_right _ hp
end
theorem rm_putGU (w : World) (loose : List Str) (mean : ExcName → Option Value) (mg mb : Str → Option Value) (news : Led) (g : Obj → Led) (x dx ls lv : Addr) (h1 h2 h3 : Int) (k1 k2 k3 : Tok) (D : Value) (vS vV : List Value) (S : List Int) (nS nV : Nat) (c : Int) (t1 t2 : Tok) (val b b2 : Value)
    (U : UpdF dx (rmDict h1 h2 h3 k1 k2 k3 D ls lv) news g) (hx : (x, instObj 137 dx) ∈ news) (hls : (ls, listOf vS.toArray nS) ∈ news) (hlv : (lv, listOf vV.toArray nV) ∈ news) (nx : x ≠ dx) (nls : ls ≠ dx) (nlv : lv ≠ dx)
    (hiS : IntsAre vS S) (hs : S.Pairwise (· ≤ ·)) (hlen : S.length < 1000) (hlV : vV.length = S.length)
    (hc0 : 0 < c) (hc1 : c < 1114111) (hlo : 0 < cnt S (c - 1)) (hhi : 0 < cnt S (c + 1)) (hb : vV[cnt S (c + 1) - 1]? = some b) (hb2 : vV[cnt S (c - 1) - 1]? = some b2)
    (hk1 : ∀ news, GivesP w loose mean mg mb 92 1 news [b, val] (fun r => r = .bool false)) (hk2 : ∀ news, GivesP w loose mean mg mb 92 1 news [b2, val] (fun r => r = .bool false)) :
    Gives w loose mean mg mb 120 3 news [.ref x, .int c t1, .int c t2, val]
      (fun r news' => r = .none ∧ ∃ ls' lv' vS', news' = (ls', listOf (List.toArray vS') 0) :: (lv', listOf (List.toArray (vV.take (cnt S (c - 1)) ++ [val, b] ++ vV.drop (cnt S (c + 1)))) 0) :: g (rmDict h1 h2 h3 k1 k2 k3 D ls' lv') ∧ IntsAre vS' (S.take (cnt S (c - 1)) ++ [c, c + 1] ++ S.drop (cnt S (c + 1)))
        ∧ AllLt ls' news ∧ AllLt lv' news ∧ ls' ≠ lv') := by
  obtain ⟨pre, post, e, eg, n1, n2⟩ := U.split
  subst e
  refine (rm_putG w loose mean mg mb (pre ++ post) x dx ls lv h1 h2 h3 k1 k2 k3 D vS vV S nS nV c t1 t2 val b b2 (split_rest hx nx) (split_rest hls nls) (split_rest hlv nlv) (fun p hp => (List.mem_append.mp hp).elim (n1 p) (n2 p)) hiS hs hlen hlV hc0 hc1 hlo hhi hb hb2 hk1 hk2).perm split_sub ?_
  rintro r n' ⟨er, ls', lv', vS', en, i1, l1, l2, l3⟩
  subst en
  refine ⟨_, ⟨er, ls', lv', vS', rfl, i1, lt_perm l1 split_sup, lt_perm l2 split_sup, l3⟩, ?_⟩
  rw [eg]
  exact List.forall_mem_cons.mpr ⟨List.mem_cons_self .., List.forall_mem_cons.mpr ⟨List.mem_cons_of_mem _ (List.mem_cons_self ..), fun p hp => List.mem_cons_of_mem _ (List.mem_cons_of_mem _ (split_sup p hp))⟩⟩
theorem getD_str {V : List Str} {vV : List Value} (h : StrsAre vV V) {i : Nat} (hi : i < V.length) : ∃ t, vV[i]? = some (.str (V.getD i Str.empty) t) := by
  obtain ⟨t, ht⟩ := h.get i _ (List.getElem?_eq_getElem hi)
  exact ⟨t, by rw [ht, List.getD, List.getElem?_eq_getElem hi]; rfl⟩
theorem rm_putU (w : World) (loose : List Str) (mean : ExcName → Option Value) (mg mb : Str → Option Value) (news : Led) (g : Obj → Led) (x dx ls lv : Addr) (h1 h2 h3 : Int) (k1 k2 k3 : Tok) (D : Value) (vS vV : List Value) (S : List Int) (V : List Str) (nS nV : Nat) (c : Int) (t1 t2 t3 : Tok) (val b b2 : Str)
    (U : UpdF dx (rmDict h1 h2 h3 k1 k2 k3 D ls lv) news g) (hx : (x, instObj 137 dx) ∈ news) (hls : (ls, listOf vS.toArray nS) ∈ news) (hlv : (lv, listOf vV.toArray nV) ∈ news) (nx : x ≠ dx) (nls : ls ≠ dx) (nlv : lv ≠ dx)
    (hiS : IntsAre vS S) (hiV : StrsAre vV V) (hs : S.Pairwise (· ≤ ·)) (hlen : S.length < 1000) (hlV : V.length = S.length)
    (hc0 : 0 < c) (hc1 : c < 1114111) (hlo : 0 < cnt S (c - 1)) (hhi : 0 < cnt S (c + 1)) (hb : V.getD (cnt S (c + 1) - 1) Str.empty = b) (hb2 : V.getD (cnt S (c - 1) - 1) Str.empty = b2) (hbn : b ≠ val) (hb2n : b2 ≠ val) :
    Gives w loose mean mg mb 120 3 news [.ref x, .int c t1, .int c t2, .str val t3]
      (fun r news' => r = .none ∧ ∃ ls' lv' vS' vV', news' = (ls', listOf (List.toArray vS') 0) :: (lv', listOf (List.toArray vV') 0) :: g (rmDict h1 h2 h3 k1 k2 k3 D ls' lv') ∧ IntsAre vS' (S.take (cnt S (c - 1)) ++ [c, c + 1] ++ S.drop (cnt S (c + 1))) ∧ StrsAre vV' (V.take (cnt S (c - 1)) ++ [val, b] ++ V.drop (cnt S (c + 1)))
        ∧ AllLt ls' news ∧ AllLt lv' news ∧ ls' ≠ lv') := by
  have q1 := cnt_le S (c + 1)
  have q2 := cnt_le S (c - 1)
  obtain ⟨u1, e1⟩ := getD_str hiV (i := cnt S (c + 1) - 1) (by omega)
  obtain ⟨u2, e2⟩ := getD_str hiV (i := cnt S (c - 1) - 1) (by omega)
  rw [hb] at e1
  rw [hb2] at e2
  refine (rm_putGU w loose mean mg mb news g x dx ls lv h1 h2 h3 k1 k2 k3 D vS vV S nS nV c t1 t2 (.str val t3) (.str b u1) (.str b2 u2) U hx hls hlv nx nls nlv hiS hs hlen (hiV.length.trans hlV) hc0 hc1 hlo hhi e1 e2 (fun n => like_ne w loose mean mg mb n b val u1 t3 hbn) (fun n => like_ne w loose mean mg mb n b2 val u2 t3 hb2n)).perm (fun _ h => h) ?_
  rintro r n' ⟨er, ls', lv', vS', en, i1, l1, l2, l3⟩
  exact ⟨_, ⟨er, ls', lv', vS', _, en, i1, strs_app (strs_app (strs_take hiV _) (StrsAre.cons _ _ (StrsAre.cons _ _ StrsAre.nil))) (hiV.drop' _), l1, l2, l3⟩, fun _ h => h⟩
end
end
section
local macro_rules | `(tactic| news_mem) => `(tactic| assumption)
local macro_rules | `(tactic| k_all) => `(tactic| assumption)
local macro_rules | `(tactic| walk1) => `(tactic| ((with_reducible show (if _ then _ else _)); k_dflt (first | refine ite_neg Bool.false_ne_true ?_ | refine ite_pos (by assumption) ?_ | refine ite_neg (by assumption) ?_ | refine ite_neg (Bool.eq_false_iff.mp (by assumption)) ?_ | refine ite_pos (by omega) ?_ | refine ite_neg (by omega) ?_)))
local macro_rules | `(tactic| k_mem) => `(tactic| repeat (first | exact List.mem_cons_self .. | assumption | refine List.mem_cons_of_mem _ ?_))
local macro_rules | `(tactic| news_mem) => `(tactic| repeat (first | exact List.mem_cons_self .. | assumption | refine List.mem_cons_of_mem _ ?_))
theorem walk_off_C8 : True := by
  w_top off
  trivial
section
set_option maxHeartbeats 1000000
theorem GivesP.mono {w : World} {loose : List Str} {mean : ExcName → Option Value} {mg mb : Str → Option Value} {f : Addr} {sz : Nat} {news : Led} {vs : List Value} {R R' : Value → Prop} (C : GivesP w loose mean mg mb f sz news vs R) (h : ∀ r, R r → R' r) : GivesP w loose mean mg mb f sz news vs R' := by
  intro dp un gd cn cs a ccd cl outer A₀ base h₀ L m s Q E B F X N T hk hd hu hret
  exact C dp un gd cn cs a ccd cl outer A₀ base h₀ L m s Q E B F X N T hk hd hu fun r h' tk' hr => hret r h' tk' (h r hr)
def gS : List Int := [0,10,11,13,14,768,769,2307,2308,2364,2365,2381,2382,8205,8206,127462,127463]
def gV : List Str := ["Other","LF","Other","CR","Other","Extend","Other","SpacingMark","Other","Extend","Other","Extend","Other","ZWJ","Other","Regional_Indicator","Other"].map Str.ofString
def eS : List Int := [0,128512,128513]
def eV : List Bool := [false,true,false]
def iS : List Int := [0,768,769,2325,2326,2364,2365,2381,2382,8205,8206]
def iV : List Str := ["None","Extend","None","Consonant","None","Extend","None","Linker","None","Extend","None"].map Str.ofString
def gF (c : Int) : Str := gV.getD (cnt gS c - 1) Str.empty
def eF (c : Int) : Bool := eV.getD (cnt eS c - 1) false
def iF (c : Int) : Str := iV.getD (cnt iS c - 1) Str.empty
def MapIn (news : Led) (r : Addr) (S : List Int) (P : List Value → Prop) : Prop := ∃ dr g1 g2 g3 j1 j2 j3 D ls lv vS vV nS nV, (r, instObj 137 dr) ∈ news ∧ (dr, rmDict g1 g2 g3 j1 j2 j3 D ls lv) ∈ news ∧ (ls, listOf (List.toArray vS) nS) ∈ news ∧ (lv, listOf (List.toArray vV) nV) ∈ news ∧ IntsAre vS S ∧ P vV
def DataIn (w : World) (news : Led) (x : Addr) : Prop := ∃ dx h1 h2 h3 h4 k1 k2 k3 k4 od om op ow O kvs r1 r2 r3, (x, instObj 186 dx) ∈ news ∧ (dx, dtDict h1 h2 h3 h4 k1 k2 k3 k4 od om op ow) ∈ news ∧ (om, O) ∈ news ∧ O.IsDictOf (strKind PySem.Challenge.rw_on0368_01.row.prog w) kvs ∧ (om == sysModules) = false
  ∧ valueAt kvs (Str.ofString "gcb") = some (.ref r1) ∧ valueAt kvs (Str.ofString "ep") = some (.ref r2) ∧ valueAt kvs (Str.ofString "incb") = some (.ref r3) ∧ MapIn news r1 gS (StrsAre · gV) ∧ MapIn news r2 eS (· = eV.map Value.bool) ∧ MapIn news r3 iS (StrsAre · iV)
theorem DataIn.inst {w : World} {news : Led} {x : Addr} (H : DataIn w news x) : ∃ dx h1 h2 h3 h4 k1 k2 k3 k4 od om op ow, (x, instObj 186 dx) ∈ news ∧ (dx, dtDict h1 h2 h3 h4 k1 k2 k3 k4 od om op ow) ∈ news := by
  obtain ⟨dx, h1, h2, h3, h4, k1, k2, k3, k4, od, om, op, ow, O, kvs, r1, r2, r3, q1, q2, _⟩ := H
  exact ⟨dx, h1, h2, h3, h4, k1, k2, k3, k4, od, om, op, ow, q1, q2⟩
theorem cnt_pos {S : List Int} {c : Int} (hc : 0 ≤ c) : 0 < cnt (0 :: S) c := by
  unfold cnt; rw [List.takeWhile_cons]; simp [hc]
theorem gcb_get (w : World) (loose : List Str) (mean : ExcName → Option Value) (mg mb : Str → Option Value) (news : Led) (x : Addr) (c : Int) (tn t1 : Tok) (H : DataIn w news x) (hc : 0 ≤ c) :
    GivesP w loose mean mg mb 176 3 news [.ref x, .str (Str.ofString "gcb") tn, .int c t1] (fun r => ∃ t, r = .str (gF c) t) := by
  obtain ⟨dx, h1, h2, h3, h4, k1, k2, k3, k4, od, om, op, ow, O, kvs, r1, r2, r3, q1, q2, q3, q4, q5, q6, q7, q8, m1, m2, m3⟩ := H
  obtain ⟨dr, g1, g2, g3, j1, j2, j3, D, ls, lv, vS, vV, nS, nV, p1, p2, p3, p4, p5, p6⟩ := m1
  have hl : cnt gS c - 1 < gV.length := by have := cnt_le gS c; have := cnt_pos (S := gS.tail) hc; show cnt gS c - 1 < 17; have e : gS.length = 17 := rfl; change 0 < cnt gS c at this; omega
  refine (data_get _ _ _ _ _ _ _ _ _ _ _ _ _ _ _ _ _ _ _ _ _ _ _ _ _ _ _ _ _ _ _ _ _ _ _ _ _ _ _ _ _ _ q1 q2 q3 q4 q5 q6 p1 p2 p3 p4 p5 (by decide) (by decide) p6.length (cnt_pos hc)).mono fun r h => ?_
  obtain ⟨t, ht⟩ := p6.get _ _ (List.getElem?_eq_getElem hl)
  refine ⟨t, ?_⟩
  rw [ht] at h
  rw [← Option.some.inj h]
  unfold gF
  rw [List.getD, List.getElem?_eq_getElem hl]; rfl
theorem incb_get (w : World) (loose : List Str) (mean : ExcName → Option Value) (mg mb : Str → Option Value) (news : Led) (x : Addr) (c : Int) (tn t1 : Tok) (H : DataIn w news x) (hc : 0 ≤ c) :
    GivesP w loose mean mg mb 176 3 news [.ref x, .str (Str.ofString "incb") tn, .int c t1] (fun r => ∃ t, r = .str (iF c) t) := by
  obtain ⟨dx, h1, h2, h3, h4, k1, k2, k3, k4, od, om, op, ow, O, kvs, r1, r2, r3, q1, q2, q3, q4, q5, q6, q7, q8, m1, m2, m3⟩ := H
  obtain ⟨dr, g1, g2, g3, j1, j2, j3, D, ls, lv, vS, vV, nS, nV, p1, p2, p3, p4, p5, p6⟩ := m3
  have hl : cnt iS c - 1 < iV.length := by have := cnt_le iS c; have := cnt_pos (S := iS.tail) hc; show cnt iS c - 1 < 11; have e : iS.length = 11 := rfl; change 0 < cnt iS c at this; omega
  refine (data_get _ _ _ _ _ _ _ _ _ _ _ _ _ _ _ _ _ _ _ _ _ _ _ _ _ _ _ _ _ _ _ _ _ _ _ _ _ _ _ _ _ _ q1 q2 q3 q4 q5 q8 p1 p2 p3 p4 p5 (by decide) (by decide) p6.length (cnt_pos hc)).mono fun r h => ?_
  obtain ⟨t, ht⟩ := p6.get _ _ (List.getElem?_eq_getElem hl)
  refine ⟨t, ?_⟩
  rw [ht] at h
  rw [← Option.some.inj h]
  unfold iF
  rw [List.getD, List.getElem?_eq_getElem hl]; rfl
theorem ep_get (w : World) (loose : List Str) (mean : ExcName → Option Value) (mg mb : Str → Option Value) (news : Led) (x : Addr) (c : Int) (tn t1 : Tok) (H : DataIn w news x) (hc : 0 ≤ c) :
    GivesP w loose mean mg mb 176 3 news [.ref x, .str (Str.ofString "ep") tn, .int c t1] (fun r => r = .bool (eF c)) := by
  obtain ⟨dx, h1, h2, h3, h4, k1, k2, k3, k4, od, om, op, ow, O, kvs, r1, r2, r3, q1, q2, q3, q4, q5, q6, q7, q8, m1, m2, m3⟩ := H
  obtain ⟨dr, g1, g2, g3, j1, j2, j3, D, ls, lv, vS, vV, nS, nV, p1, p2, p3, p4, p5, p6⟩ := m2
  have hl : cnt eS c - 1 < eV.length := by have := cnt_le eS c; have := cnt_pos (S := eS.tail) hc; show cnt eS c - 1 < 3; have e : eS.length = 3 := rfl; change 0 < cnt eS c at this; omega
  subst p6
  refine (data_get _ _ _ _ _ _ _ _ _ _ _ _ _ _ _ _ _ _ _ _ _ _ _ _ _ _ _ _ _ _ _ _ _ _ _ _ _ _ _ _ _ _ q1 q2 q3 q4 q5 q7 p1 p2 p3 p4 p5 (by decide) (by decide) rfl (cnt_pos hc)).mono fun r h => ?_
  rw [List.getElem?_map, List.getElem?_eq_getElem hl] at h
  rw [← Option.some.inj h]
  unfold eF
  rw [List.getD, List.getElem?_eq_getElem hl]; rfl
def kF (c : Int) : Str := if gF c ≠ Str.ofString "Other" then gF c else (hkF c).getD (gF c)
theorem kf1 {c : Int} (h : (gF c != Str.ofString "Other") = true) : kF c = gF c := if_pos (bne_iff_ne.mp h)
theorem kf2 {c : Int} (h : (gF c != Str.ofString "Other") = false) (e : hkF c = none) : kF c = gF c := by
  unfold kF; rw [e]; split <;> rfl
theorem kf3 {c : Int} {s : Str} (h : (gF c != Str.ofString "Other") = false) (e : hkF c = some s) : kF c = s := by
  unfold kF; rw [e, if_neg (by simpa using h)]; rfl
theorem cluster_kind (w : World) (loose : List Str) (mean : ExcName → Option Value) (mg mb : Str → Option Value) (news : Led) (x : Addr) (c : Int) (t1 : Tok) (H : DataIn w news x) (hc : 0 ≤ c) (hc2 : c < 2000000) :
    GivesP w loose mean mg mb 43 4 news [.int c t1, .ref x] (fun r => ∃ t, r = .str (kF c) t) := by
  obtain ⟨dx, ha, hb, hc9, hd9, ka, kb, kc, kd9, od, om, op, ow, q1, q2⟩ := H.inst
  unfold GivesP
  k_fill
  intro dp un gd cn cs a ccd cl outer A₀ base h₀ L m s Q E B F X N T hk hd hu hret
  refine wpAny_call ?_
  have cE0 := InElt.start s.heap
  k_with_none
  k_with "call ref" => first | (refine' GivesP.use (gcb_get _ _ _ _ _ _ _ _ _ _  ?H ?hc) ?k1 ?k2 ?k3 ?k4 ?k5 ?kK ?kd ?ku ?_; (case k2 => k_asm); (case k4 => k_asm); (case H => assumption); (case hc => assumption); (case k1 => k_asm); (case k3 => k_asm); (case k5 => k_asm); (case kK => first | exact rfl | assumption); (case kd => ktr_room); (case ku => ktr_units); intro r9 h9 tk9 R9 F9 N9 E9; clear E9; obtain ⟨t9, e9⟩ := R9; subst e9; (try dsimp only); (try k_fold)) | (refine' GivesP.use (hangul_kind _ _ _ _ _ _ _ _  ?hc ?hc2) ?k1 ?k2 ?k3 ?k4 ?k5 ?kK ?kd ?ku ?_; (case k2 => k_asm); (case k4 => k_asm); (case hc => assumption); (case hc2 => assumption); (case k1 => k_asm); (case k3 => k_asm); (case k5 => k_asm); (case kK => first | exact rfl | assumption); (case kd => ktr_room); (case ku => ktr_units); intro r9 h9 tk9 R9 F9 N9 E9; clear E9; rcases R9 with ⟨e9, f9⟩ | ⟨s9, t9, e9, f9⟩ <;> subst f9; (try dsimp only); (try k_fold))
  k_dflt k_enter
  k_steps
  · exact hret _ _ _ ⟨_, congrArg (fun z => Value.str z _) (kf1 (by assumption)).symm⟩ (by assumption) (by assumption) (by assumption)
  · exact hret _ _ _ ⟨_, congrArg (fun z => Value.str z _) (kf2 (by assumption) (by assumption)).symm⟩ (by assumption) (by assumption) (by assumption)
  · exact hret _ _ _ ⟨_, congrArg (fun z => Value.str z _) (kf3 (by assumption) (by assumption)).symm⟩ (by assumption) (by assumption) (by assumption)
end
theorem walk_off_C9 : True := by
  w_top off
  trivial
section
set_option maxHeartbeats 1000000
def runN {α : Type} (P : α → Bool) (l : List α) (p : Nat) : Nat := p + ((l.drop p).takeWhile P).length
theorem runN_le {α : Type} (P : α → Bool) (l : List α) {p : Nat} (h : p ≤ l.length) : runN P l p ≤ l.length := by
  unfold runN
  have := (List.takeWhile_sublist (l := l.drop p) P).length_le
  rw [List.length_drop] at this; omega
theorem runN_ge {α : Type} (P : α → Bool) (l : List α) (p : Nat) : p ≤ runN P l p := by unfold runN; omega
theorem runN_step {α : Type} {P : α → Bool} {l : List α} {p : Nat} (h : p < l.length) (hp : P l[p] = true) : runN P l p = runN P l (p + 1) := by
  unfold runN
  rw [List.drop_eq_getElem_cons h, List.takeWhile_cons, if_pos hp, List.length_cons]; omega
theorem runN_stop {α : Type} {P : α → Bool} {l : List α} {p : Nat} (h : p < l.length) (hp : P l[p] = false) : runN P l p = p := by
  unfold runN
  rw [List.drop_eq_getElem_cons h, List.takeWhile_cons, if_neg (by simp [hp])]; rfl
theorem runN_end {α : Type} {P : α → Bool} {l : List α} {p : Nat} (h : l.length ≤ p) : runN P l p = p := by
  unfold runN
  rw [List.drop_eq_nil_of_le h]; rfl
def runI {α : Type} (P : α → Bool) (l : List α) (p : Int) : Int := runN P l p.toNat
theorem runI_le {α : Type} (P : α → Bool) (l : List α) {p : Int} (h0 : 0 ≤ p) (h : p ≤ l.length) : runI P l p ≤ l.length := by
  have := runN_le P l (p := p.toNat) (by omega); unfold runI; omega
theorem runI_ge {α : Type} (P : α → Bool) (l : List α) {p : Int} (h0 : 0 ≤ p) : p ≤ runI P l p := by
  have := runN_ge P l p.toNat; unfold runI; omega
theorem runI_step {P : Int → Bool} {l : List Int} {p : Int} (h0 : 0 ≤ p) (h : p < l.length) (hp : P (l.getD p.toNat 0) = true) : runI P l p = runI P l (p + 1) := by
  have hl : p.toNat < l.length := by omega
  have e : (p + 1).toNat = p.toNat + 1 := by omega
  unfold runI; rw [e, runN_step hl (by simpa [List.getD, hl] using hp)]
theorem runI_stop {P : Int → Bool} {l : List Int} {p : Int} (h0 : 0 ≤ p) (h : p < l.length) (hp : P (l.getD p.toNat 0) = false) : runI P l p = p := by
  have hl : p.toNat < l.length := by omega
  unfold runI; rw [runN_stop hl (by simpa [List.getD, hl] using hp)]; omega
theorem runI_end {α : Type} {P : α → Bool} {l : List α} {p : Int} (h0 : 0 ≤ p) (h : (l.length : Int) ≤ p) : runI P l p = p := by
  unfold runI; rw [runN_end (by omega)]; omega
abbrev tupOf (vs : List Value) (n : Nat) : Obj := { cls := .type "tuple", data := .seq vs.toArray n }
theorem in_tup {prog : Program} {w : World} {A : Around} {E : Value → Shared → Prop} {s : Shared} {h₀ : Heap} {L D : Addr} {news : List (Addr × Obj)} {vs : List Value} {n : Nat} {ks : List Str} {k : Str} {u : Tok} {Q : Value → Shared → Prop}
    (N : News h₀ L s.heap news) (hm : (D, tupOf vs n) ∈ news) (hi : StrsAre vs ks) (h : Q (.bool (ks.any (· == k))) s) : wpAny (model prog w) A (compareOp .In (.str k u) (.ref D)) Q E s :=
  in_tuple_strs ⟨_, (N _ hm).1, rfl, _, rfl⟩ hi h
theorem code_ok {T : List Int} (hT : ∀ c ∈ T, 0 ≤ c ∧ c < 2000000) (p : Int) : 0 ≤ T.getD p.toNat 0 ∧ T.getD p.toNat 0 < 2000000 := by
  rw [List.getD]
  cases e : T[p.toNat]? with
  | none => simp
  | some v => exact hT v (List.mem_of_getElem? e)
def inK (ks : List Str) (c : Int) : Bool := ks.any (· == kF c)
theorem cluster_run0 (w : World) (loose : List Str) (mean : ExcName → Option Value) (mg mb : Str → Option Value) (news : Led) (tx x kx : Addr) (p : Int) (t1 : Tok) (vT vk : List Value) (nT nk : Nat) (tc : List Int) (ks : List Str) (H : DataIn w news x)
    (hm : (tx, listOf vT.toArray nT) ∈ news) (hkx : (kx, tupOf vk nk) ∈ news) (hi : IntsAre vT tc) (hks : StrsAre vk ks) (hlen : tc.length < 1000) (hT : ∀ c ∈ tc, 0 ≤ c ∧ c < 2000000) (h0 : 0 ≤ p) (h1 : p ≤ tc.length) :
    GivesP w loose mean mg mb 50 6 news [.ref tx, .int p t1, .ref x, .ref kx] (fun r => ∃ t, r = .int (runI (inK ks) tc p) t) := by
  unfold GivesP
  k_fill
  intro dp un gd cn cs a ccd cl outer A₀ base h₀ L m s Q E B F X N T hk hd hu hret
  refine wpAny_call ?_
  have cE0 := InElt.start s.heap
  k_with_none
  k_with "exec While" => (rename Fr _ _ _ _ => lF'; rename News _ _ _ _ => lN'; refine' ksw_while (σ := Int × Nat) (fun _ => news) (fun c => [(Str.ofString "at", .int c.1 c.2)]) (fun _ => True) [] (fun c => 0 ≤ c.1 ∧ c.1 ≤ tc.length ∧ runI (inK ks) tc c.1 = runI (inK ks) tc p) (fun c => (tc.length - c.1).toNat) (_,_) lF' lN' trivial ?kk ?kp ?_; (case kk => kst_all); (case kp => (dsimp only; exact ⟨h0, h1, rfl⟩)); clear lF' lN'; intro c u h tk _ hP F' N'; obtain ⟨q, tq⟩ := c; dsimp only at hP; obtain ⟨hP1, hP2, hP3⟩ := hP; (try k_fold))
  k_with "exec While BoolOp cons nil" => (rename Fr _ _ _ _ => lF'; rename News _ _ _ _ => lN'; refine' ksw_while (σ := Int × Nat) (fun _ => news) (fun c => [(Str.ofString "at", .int c.1 c.2)]) (fun _ => True) [] (fun c => 0 ≤ c.1 ∧ c.1 ≤ tc.length ∧ runI (inK ks) tc c.1 = runI (inK ks) tc p) (fun c => (tc.length - c.1).toNat) (_,_) lF' lN' trivial ?kk ?kp ?_; (case kk => kst_all); (case kp => (dsimp only; exact ⟨h0, h1, rfl⟩)); clear lF' lN'; intro c u h tk _ hP F' N'; obtain ⟨q, tq⟩ := c; dsimp only at hP; obtain ⟨hP1, hP2, hP3⟩ := hP; (try k_fold))
  k_with "compareOp In str ref" => (refine' in_tup ?xN ?xm ?xi ?_; (case xN => k_asm); (case xm => assumption); (case xi => assumption))
  k_with "call ref" => (refine' GivesP.use (cluster_kind _ _ _ _ _ _ _ _ _  ?H ?hc ?hc2) ?k1 ?k2 ?k3 ?k4 ?k5 ?kK ?kd ?ku ?_; (case k2 => k_asm); (case k4 => k_asm); (case H => assumption); (case hc => exact (code_ok hT _).1); (case hc2 => exact (code_ok hT _).2); (case k1 => k_asm); (case k3 => k_asm); (case k5 => k_asm); (case kK => first | exact rfl | assumption); (case kd => ktr_room); (case ku => ktr_units); intro r9 h9 tk9 R9 F9 N9 E9; clear E9; obtain ⟨t9, e9⟩ := R9; subst e9; (try dsimp only); (try k_fold))
  k_dflt k_enter
  k_steps
  · exact ksw_end (q + 1, _) (by assumption) (by assumption) (fun _ h => h) trivial (by kst_all) (by intro z h2 h3; repeat (first | exact kst_same2 h3 h2 rfl | (refine (if_neg ?hne).trans ?_; (case hne => first | exact h2 _ (.head _) | exact h2 _ (.tail _ (.head _)) | exact h2 _ (.tail _ (.tail _ (.head _))) | exact ne_of_contains h3 (.head _) | exact ne_of_contains h3 (.tail _ (.head _)) | exact ne_of_contains h3 (.tail _ (.tail _ (.head _))))))) ⟨by dsimp only; omega, by dsimp only; omega, (runI_step hP1 (by assumption) (by assumption)).symm.trans hP3⟩ (by dsimp only; omega)
  · exact hret _ _ _ (ktn_int ((runI_stop hP1 (by assumption) (by assumption)).symm.trans hP3)) (by assumption) (by assumption) (by assumption)
  · exact hret _ _ _ (ktn_int ((runI_end hP1 (by omega)).symm.trans hP3)) (by assumption) (by assumption) (by assumption)
end
theorem walk_off_CA : True := by
  w_top off
  trivial
section
set_option maxHeartbeats 1000000
theorem cluster_run (w : World) (loose : List Str) (mean : ExcName → Option Value) (mg mb : Str → Option Value) (news : Led) (tx x kx : Addr) (p : Int) (t1 : Tok) (vT vk : List Value) (nT nk : Nat) (tc : List Int) (ks : List Str) (H : DataIn w news x)
    (hm : (tx, listOf vT.toArray nT) ∈ news) (hkx : (kx, tupOf vk nk) ∈ news) (hi : IntsAre vT tc) (hks : StrsAre vk ks) (hlen : tc.length < 1000) (hT : ∀ c ∈ tc, 0 ≤ c ∧ c < 2000000) (h0 : 0 ≤ p) (h1 : p ≤ tc.length) :
    GivesP w loose mean mg mb 50 6 news [.ref tx, .int p t1, .ref x, .ref kx] (fun r => ∃ t, r = .int (runI (inK ks) tc p) t ∧ p ≤ runI (inK ks) tc p ∧ runI (inK ks) tc p ≤ tc.length) :=
  (cluster_run0 _ _ _ _ _ _ _ _ _ _ _ _ _ _ _ _ _ H hm hkx hi hks hlen hT h0 h1).mono fun _ ⟨t, e⟩ => ⟨t, e, runI_ge _ _ h0, runI_le _ _ h0 h1⟩

theorem MapIn.mono {news news' : Led} {r : Addr} {S : List Int} {P : List Value → Prop} (H : MapIn news r S P) (h : ∀ p ∈ news, p ∈ news') : MapIn news' r S P := by
  obtain ⟨dr, g1, g2, g3, j1, j2, j3, D, ls, lv, vS, vV, nS, nV, p1, p2, p3, p4, p5⟩ := H
  exact ⟨dr, g1, g2, g3, j1, j2, j3, D, ls, lv, vS, vV, nS, nV, h _ p1, h _ p2, h _ p3, h _ p4, p5⟩
theorem DataIn.mono {w : World} {news news' : Led} {x : Addr} (H : DataIn w news x) (h : ∀ p ∈ news, p ∈ news') : DataIn w news' x := by
  obtain ⟨dx, h1, h2, h3, h4, k1, k2, k3, k4, od, om, op, ow, O, kvs, r1, r2, r3, q1, q2, q3, q4, q5, q6, q7, q8, m1, m2, m3⟩ := H
  exact ⟨dx, h1, h2, h3, h4, k1, k2, k3, k4, od, om, op, ow, O, kvs, r1, r2, r3, h _ q1, h _ q2, h _ q3, q4, q5, q6, q7, q8, m1.mono h, m2.mono h, m3.mono h⟩
def sylF (T : List Int) (p : Int) : Int :=
  if runI (inK [Str.ofString "L"]) T p < T.length then
    if [Str.ofString "V", Str.ofString "LV"].any (· == kF (T.getD (runI (inK [Str.ofString "L"]) T p).toNat 0)) = true then
      runI (inK [Str.ofString "T"]) T (runI (inK [Str.ofString "V"]) T (runI (inK [Str.ofString "L"]) T p + 1))
    else if (kF (T.getD (runI (inK [Str.ofString "L"]) T p).toNat 0) == Str.ofString "LVT") = true ∨ ((kF (T.getD (runI (inK [Str.ofString "L"]) T p).toNat 0) == Str.ofString "T") = true ∧ runI (inK [Str.ofString "L"]) T p = p) then
      runI (inK [Str.ofString "T"]) T (runI (inK [Str.ofString "L"]) T p + 1)
    else runI (inK [Str.ofString "L"]) T p
  else runI (inK [Str.ofString "L"]) T p
section
variable {T : List Int} {p : Int}
theorem sylF1 (a : (runI (inK [Str.ofString "L"]) T p) < T.length) (b : ([Str.ofString "V", Str.ofString "LV"].any (· == (kF (T.getD (runI (inK [Str.ofString "L"]) T p).toNat 0)))) = true) : runI (inK [Str.ofString "T"]) T (runI (inK [Str.ofString "V"]) T ((runI (inK [Str.ofString "L"]) T p) + 1)) = sylF T p := by
  unfold sylF; rw [if_pos a, if_pos b]
theorem sylF2 (a : (runI (inK [Str.ofString "L"]) T p) < T.length) (b : ([Str.ofString "V", Str.ofString "LV"].any (· == (kF (T.getD (runI (inK [Str.ofString "L"]) T p).toNat 0)))) = false) (c : ((kF (T.getD (runI (inK [Str.ofString "L"]) T p).toNat 0)) == Str.ofString "LVT") = true) : runI (inK [Str.ofString "T"]) T ((runI (inK [Str.ofString "L"]) T p) + 1) = sylF T p := by
  unfold sylF; rw [if_pos a, if_neg (Bool.eq_false_iff.mp b), if_pos (Or.inl c)]
theorem sylF3 (a : (runI (inK [Str.ofString "L"]) T p) < T.length) (b : ([Str.ofString "V", Str.ofString "LV"].any (· == (kF (T.getD (runI (inK [Str.ofString "L"]) T p).toNat 0)))) = false) (_c : ((kF (T.getD (runI (inK [Str.ofString "L"]) T p).toNat 0)) == Str.ofString "LVT") = false) (d : ((kF (T.getD (runI (inK [Str.ofString "L"]) T p).toNat 0)) == Str.ofString "T") = true) (e : (runI (inK [Str.ofString "L"]) T p) = p) : runI (inK [Str.ofString "T"]) T ((runI (inK [Str.ofString "L"]) T p) + 1) = sylF T p := by
  unfold sylF; rw [if_pos a, if_neg (Bool.eq_false_iff.mp b), if_pos (Or.inr ⟨d, e⟩)]
theorem sylF4 (a : (runI (inK [Str.ofString "L"]) T p) < T.length) (b : ([Str.ofString "V", Str.ofString "LV"].any (· == (kF (T.getD (runI (inK [Str.ofString "L"]) T p).toNat 0)))) = false) (c : ((kF (T.getD (runI (inK [Str.ofString "L"]) T p).toNat 0)) == Str.ofString "LVT") = false) (_d : ((kF (T.getD (runI (inK [Str.ofString "L"]) T p).toNat 0)) == Str.ofString "T") = true) (e : (runI (inK [Str.ofString "L"]) T p) ≠ p) : (runI (inK [Str.ofString "L"]) T p) = sylF T p := by
  unfold sylF; rw [if_pos a, if_neg (Bool.eq_false_iff.mp b), if_neg (fun h => h.elim (Bool.eq_false_iff.mp c) fun h => e h.2)]
theorem sylF5 (a : (runI (inK [Str.ofString "L"]) T p) < T.length) (b : ([Str.ofString "V", Str.ofString "LV"].any (· == (kF (T.getD (runI (inK [Str.ofString "L"]) T p).toNat 0)))) = false) (c : ((kF (T.getD (runI (inK [Str.ofString "L"]) T p).toNat 0)) == Str.ofString "LVT") = false) (d : ((kF (T.getD (runI (inK [Str.ofString "L"]) T p).toNat 0)) == Str.ofString "T") = false) : (runI (inK [Str.ofString "L"]) T p) = sylF T p := by
  unfold sylF; rw [if_pos a, if_neg (Bool.eq_false_iff.mp b), if_neg (fun h => h.elim (Bool.eq_false_iff.mp c) fun h => Bool.eq_false_iff.mp d h.1)]
theorem sylF6 (a : ¬ (runI (inK [Str.ofString "L"]) T p) < T.length) : (runI (inK [Str.ofString "L"]) T p) = sylF T p := by
  unfold sylF; rw [if_neg a]
end
theorem cluster_syllable_end (w : World) (loose : List Str) (mean : ExcName → Option Value) (mg mb : Str → Option Value) (news : Led) (tx x : Addr) (p : Int) (t1 : Tok) (vT : List Value) (nT : Nat) (tc : List Int) (H : DataIn w news x)
    (hm : (tx, listOf vT.toArray nT) ∈ news) (hi : IntsAre vT tc) (hlen : tc.length < 1000) (hT : ∀ c ∈ tc, 0 ≤ c ∧ c < 2000000) (h0 : 0 ≤ p) (h1 : p ≤ tc.length) :
    GivesP w loose mean mg mb 57 7 news [.ref tx, .int p t1, .ref x] (fun r => ∃ t, r = .int (sylF tc p) t) := by
  unfold GivesP
  k_fill
  intro dp un gd cn cs a ccd cl outer A₀ base h₀ L m s Q E B F X N T hk hd hu hret
  refine wpAny_call ?_
  have cE0 := InElt.start s.heap
  have hr1 := runI_ge (inK [Str.ofString "L"]) tc h0
  have hr2 := runI_le (inK [Str.ofString "L"]) tc h0 h1
  k_with_none
  k_with "call ref" => first | (refine' GivesP.use (cluster_run _ _ _ _ _ _ _ _ _ _ _ _ _ _ _ _ ([Str.ofString "L"]) ?H ?hm ?hkx ?hi ?hks ?hlen ?hT ?hp0 ?hp1) ?k1 ?k2 ?k3 ?k4 ?k5 ?kK ?kd ?ku ?_; (case k2 => k_asm); (case k4 => k_asm); (case hkx => (repeat (first | exact List.mem_cons_self .. | assumption | refine List.mem_cons_of_mem _ ?_))); (case H => exact H.mono (fun p hp => by repeat (first | exact hp | refine List.mem_cons_of_mem _ ?_))); (case hm => (repeat (first | exact List.mem_cons_self .. | assumption | refine List.mem_cons_of_mem _ ?_))); (case hi => assumption); (case hks => exact StrsAre.cons _ _ StrsAre.nil); (case hlen => assumption); (case hT => assumption); (case hp0 => omega); (case hp1 => omega); (case k1 => k_asm); (case k3 => k_asm); (case k5 => k_asm); (case kK => first | exact rfl | assumption); (case kd => ktr_room); (case ku => ktr_units); intro r9 h9 tk9 R9 F9 N9 E9; clear E9; obtain ⟨t9, e9, hb1, hb2⟩ := R9; subst e9; (try dsimp only); (try k_fold)) | (refine' GivesP.use (cluster_run _ _ _ _ _ _ _ _ _ _ _ _ _ _ _ _ ([Str.ofString "V"]) ?H ?hm ?hkx ?hi ?hks ?hlen ?hT ?hp0 ?hp1) ?k1 ?k2 ?k3 ?k4 ?k5 ?kK ?kd ?ku ?_; (case k2 => k_asm); (case k4 => k_asm); (case hkx => (repeat (first | exact List.mem_cons_self .. | assumption | refine List.mem_cons_of_mem _ ?_))); (case H => exact H.mono (fun p hp => by repeat (first | exact hp | refine List.mem_cons_of_mem _ ?_))); (case hm => (repeat (first | exact List.mem_cons_self .. | assumption | refine List.mem_cons_of_mem _ ?_))); (case hi => assumption); (case hks => exact StrsAre.cons _ _ StrsAre.nil); (case hlen => assumption); (case hT => assumption); (case hp0 => omega); (case hp1 => omega); (case k1 => k_asm); (case k3 => k_asm); (case k5 => k_asm); (case kK => first | exact rfl | assumption); (case kd => ktr_room); (case ku => ktr_units); intro r9 h9 tk9 R9 F9 N9 E9; clear E9; obtain ⟨t9, e9, hb1, hb2⟩ := R9; subst e9; (try dsimp only); (try k_fold)) | (refine' GivesP.use (cluster_run _ _ _ _ _ _ _ _ _ _ _ _ _ _ _ _ ([Str.ofString "T"]) ?H ?hm ?hkx ?hi ?hks ?hlen ?hT ?hp0 ?hp1) ?k1 ?k2 ?k3 ?k4 ?k5 ?kK ?kd ?ku ?_; (case k2 => k_asm); (case k4 => k_asm); (case hkx => (repeat (first | exact List.mem_cons_self .. | assumption | refine List.mem_cons_of_mem _ ?_))); (case H => exact H.mono (fun p hp => by repeat (first | exact hp | refine List.mem_cons_of_mem _ ?_))); (case hm => (repeat (first | exact List.mem_cons_self .. | assumption | refine List.mem_cons_of_mem _ ?_))); (case hi => assumption); (case hks => exact StrsAre.cons _ _ StrsAre.nil); (case hlen => assumption); (case hT => assumption); (case hp0 => omega); (case hp1 => omega); (case k1 => k_asm); (case k3 => k_asm); (case k5 => k_asm); (case kK => first | exact rfl | assumption); (case kd => ktr_room); (case ku => ktr_units); intro r9 h9 tk9 R9 F9 N9 E9; clear E9; obtain ⟨t9, e9, hb1, hb2⟩ := R9; subst e9; (try dsimp only); (try k_fold)) | (refine' GivesP.use (cluster_kind _ _ _ _ _ _ _ _ _  ?H ?hc ?hc2) ?k1 ?k2 ?k3 ?k4 ?k5 ?kK ?kd ?ku ?_; (case k2 => k_asm); (case k4 => k_asm); (case H => exact H.mono (fun p hp => by repeat (first | exact hp | refine List.mem_cons_of_mem _ ?_))); (case hc => exact (code_ok hT _).1); (case hc2 => exact (code_ok hT _).2); (case k1 => k_asm); (case k3 => k_asm); (case k5 => k_asm); (case kK => first | exact rfl | assumption); (case kd => ktr_room); (case ku => ktr_units); intro r9 h9 tk9 R9 F9 N9 E9; clear E9; obtain ⟨t9, e9⟩ := R9; subst e9; (try dsimp only); (try k_fold))
  k_dflt k_enter
  k_steps
  · (rename News _ _ _ _ => kN9; refine' hret _ _ _ (ktn_int (sylF1 (by assumption) (by assumption))) ?kF (cb_drop kN9 ?ks) ?kE; (case kF => assumption); (case kE => assumption); (case ks => exact fun p hp => by repeat (first | exact hp | refine List.mem_cons_of_mem _ ?_)))
  · (rename News _ _ _ _ => kN9; refine' hret _ _ _ (ktn_int (sylF2 (by assumption) (by assumption) (by assumption))) ?kF (cb_drop kN9 ?ks) ?kE; (case kF => assumption); (case kE => assumption); (case ks => exact fun p hp => by repeat (first | exact hp | refine List.mem_cons_of_mem _ ?_)))
  · (rename News _ _ _ _ => kN9; refine' hret _ _ _ (ktn_int (sylF3 (by assumption) (by assumption) (by assumption) (by assumption) (by assumption))) ?kF (cb_drop kN9 ?ks) ?kE; (case kF => assumption); (case kE => assumption); (case ks => exact fun p hp => by repeat (first | exact hp | refine List.mem_cons_of_mem _ ?_)))
  · (rename News _ _ _ _ => kN9; refine' hret _ _ _ (ktn_int (sylF4 (by assumption) (by assumption) (by assumption) (by assumption) (by assumption))) ?kF (cb_drop kN9 ?ks) ?kE; (case kF => assumption); (case kE => assumption); (case ks => exact fun p hp => by repeat (first | exact hp | refine List.mem_cons_of_mem _ ?_)))
  · (rename News _ _ _ _ => kN9; refine' hret _ _ _ (ktn_int (sylF5 (by assumption) (by assumption) (by assumption) (by assumption))) ?kF (cb_drop kN9 ?ks) ?kE; (case kF => assumption); (case kE => assumption); (case ks => exact fun p hp => by repeat (first | exact hp | refine List.mem_cons_of_mem _ ?_)))
  · (rename News _ _ _ _ => kN9; refine' hret _ _ _ (ktn_int (sylF6 (by assumption))) ?kF (cb_drop kN9 ?ks) ?kE; (case kF => assumption); (case kE => assumption); (case ks => exact fun p hp => by repeat (first | exact hp | refine List.mem_cons_of_mem _ ?_)))
end
end
section
local macro_rules | `(tactic| walk1) => `(tactic| ((with_reducible show (if _ then _ else _)); k_dflt (first | refine ite_neg Bool.false_ne_true ?_ | refine ite_pos (by with_reducible assumption) ?_ | refine ite_neg (by with_reducible assumption) ?_ | refine ite_neg (Bool.eq_false_iff.mp (by with_reducible assumption)) ?_ | refine ite_pos (by omega) ?_ | refine ite_neg (by omega) ?_)))
section
local macro_rules | `(tactic| news_mem) => `(tactic| assumption)
local macro_rules | `(tactic| k_all) => `(tactic| assumption)
local macro_rules | `(tactic| k_mem) => `(tactic| repeat (first | exact List.mem_cons_self .. | assumption | refine List.mem_cons_of_mem _ ?_))
local macro_rules | `(tactic| news_mem) => `(tactic| repeat (first | exact List.mem_cons_self .. | assumption | refine List.mem_cons_of_mem _ ?_))
theorem walk_off_CB : True := by
  w_top off
  trivial
section
set_option maxHeartbeats 1000000
def picC (T : List Int) (h : Int) : Prop := runI (inK [Str.ofString "Extend"]) T h + 1 < T.length ∧ kF (T.getD (runI (inK [Str.ofString "Extend"]) T h).toNat 0) = Str.ofString "ZWJ" ∧ eF (T.getD (runI (inK [Str.ofString "Extend"]) T h + 1).toNat 0) = true
inductive PicR (T : List Int) : Int → Int → Prop where
  | stop {h : Int} (c : ¬ picC T h) : PicR T h h
  | step {h r : Int} (c : picC T h) (k : PicR T (runI (inK [Str.ofString "Extend"]) T h + 2) r) : PicR T h r
def PicO (T : List Int) (p v : Int) : Prop := (eF (T.getD p.toNat 0) = false ∧ v = p) ∨ (eF (T.getD p.toNat 0) = true ∧ PicR T (p + 1) v)
theorem cluster_picture_end (w : World) (loose : List Str) (mean : ExcName → Option Value) (mg mb : Str → Option Value) (news : Led) (tx x : Addr) (p : Int) (t1 : Tok) (vT : List Value) (nT : Nat) (tc : List Int) (H : DataIn w news x)
    (hm : (tx, listOf vT.toArray nT) ∈ news) (hi : IntsAre vT tc) (hlen : tc.length < 1000) (hT : ∀ c ∈ tc, 0 ≤ c ∧ c < 2000000) (h0 : 0 ≤ p) (h1 : p < tc.length) :
    GivesP w loose mean mg mb 64 7 news [.ref tx, .int p t1, .ref x] (fun r => ∃ v t, r = .int v t ∧ PicO tc p v) := by
  obtain ⟨dx, ha9, hb9, hc9, hd9, ka9, kb9, kc9, kd9, od9, om9, op9, ow9, q1, q2⟩ := H.inst
  unfold GivesP
  k_fill
  intro dp un gd cn cs a ccd cl outer A₀ base h₀ L m s Q E B F X N T hk hd hu hret
  refine wpAny_call ?_
  have cE0 := InElt.start s.heap
  k_with_none
  k_with "exec While" => (rename Fr _ _ _ _ => lF'; rename News _ _ _ _ => lN'; refine' ksw_while (σ := Int × Nat) (fun _ => news) (fun c => [(Str.ofString "here", .int c.1 c.2)]) (fun _ => True) [Str.ofString "joint"] (fun c => p + 1 ≤ c.1 ∧ c.1 ≤ tc.length ∧ ∀ r, PicR tc c.1 r → PicR tc (p + 1) r) (fun c => (tc.length - c.1).toNat) (_,_) lF' lN' trivial ?kk ?kp ?_; (case kk => kst_all); (case kp => (dsimp only; exact ⟨Int.le_refl _, by omega, fun _ h => h⟩)); clear lF' lN'; intro c u h tk _ hP F' N'; obtain ⟨q, tq⟩ := c; dsimp only at hP; obtain ⟨hP1, hP2, hP3⟩ := hP; (try k_fold))
  k_with "exec While BoolOp cons nil" => (rename Fr _ _ _ _ => lF'; rename News _ _ _ _ => lN'; refine' ksw_while (σ := Int × Nat) (fun _ => news) (fun c => [(Str.ofString "here", .int c.1 c.2)]) (fun _ => True) [Str.ofString "joint"] (fun c => p + 1 ≤ c.1 ∧ c.1 ≤ tc.length ∧ ∀ r, PicR tc c.1 r → PicR tc (p + 1) r) (fun c => (tc.length - c.1).toNat) (_,_) lF' lN' trivial ?kk ?kp ?_; (case kk => kst_all); (case kp => (dsimp only; exact ⟨Int.le_refl _, by omega, fun _ h => h⟩)); clear lF' lN'; intro c u h tk _ hP F' N'; obtain ⟨q, tq⟩ := c; dsimp only at hP; obtain ⟨hP1, hP2, hP3⟩ := hP; (try k_fold))
  k_with "KswEnd" => (exact ksw_end (runI (inK [Str.ofString "Extend"]) tc q + 2, _) (by assumption) (by assumption) (fun p hp => by repeat (first | exact hp | refine List.mem_cons_of_mem _ ?_)) trivial (by kst_all) (by intro z h2 h3; repeat (first | exact kst_same2 h3 h2 rfl | (refine (if_neg ?hne).trans ?_; (case hne => first | exact h2 _ (.head _) | exact h2 _ (.tail _ (.head _)) | exact h2 _ (.tail _ (.tail _ (.head _))) | exact ne_of_contains h3 (.head _) | exact ne_of_contains h3 (.tail _ (.head _)) | exact ne_of_contains h3 (.tail _ (.tail _ (.head _))))))) ⟨by dsimp only; omega, by dsimp only; omega, fun r hr => hP3 r (.step ⟨by omega, bne_eq_false_iff_eq.mp (by assumption), by assumption⟩ hr)⟩ (by dsimp only; omega))
  k_with "call ref" => first | (refine' GivesP.use (cluster_run _ _ _ _ _ _ _ _ _ _ _ _ _ _ _ _ ([Str.ofString "Extend"]) ?H ?hm ?hkx ?hi ?hks ?hlen ?hT ?hp0 ?hp1) ?k1 ?k2 ?k3 ?k4 ?k5 ?kK ?kd ?ku ?_; (case k2 => k_asm); (case k4 => k_asm); (case hkx => (repeat (first | exact List.mem_cons_self .. | assumption | refine List.mem_cons_of_mem _ ?_))); (case H => exact H.mono (fun p hp => by repeat (first | exact hp | refine List.mem_cons_of_mem _ ?_))); (case hm => (repeat (first | exact List.mem_cons_self .. | assumption | refine List.mem_cons_of_mem _ ?_))); (case hi => assumption); (case hks => exact StrsAre.cons _ _ StrsAre.nil); (case hlen => assumption); (case hT => assumption); (case hp0 => omega); (case hp1 => omega); (case k1 => k_asm); (case k3 => k_asm); (case k5 => k_asm); (case kK => first | exact rfl | assumption); (case kd => ktr_room); (case ku => ktr_units); intro r9 h9 tk9 R9 F9 N9 E9; clear E9; obtain ⟨t9, e9, hb1, hb2⟩ := R9; subst e9; (try dsimp only); (try k_fold)) | (refine' GivesP.use (cluster_kind _ _ _ _ _ _ _ _ _  ?H ?hc ?hc2) ?k1 ?k2 ?k3 ?k4 ?k5 ?kK ?kd ?ku ?_; (case k2 => k_asm); (case k4 => k_asm); (case H => exact H.mono (fun p hp => by repeat (first | exact hp | refine List.mem_cons_of_mem _ ?_))); (case hc => exact (code_ok hT _).1); (case hc2 => exact (code_ok hT _).2); (case k1 => k_asm); (case k3 => k_asm); (case k5 => k_asm); (case kK => first | exact rfl | assumption); (case kd => ktr_room); (case ku => ktr_units); intro r9 h9 tk9 R9 F9 N9 E9; clear E9; obtain ⟨t9, e9⟩ := R9; subst e9; (try dsimp only); (try k_fold)) | (refine' GivesP.use (ep_get _ _ _ _ _ _ _ _ _ _  ?H ?hc) ?k1 ?k2 ?k3 ?k4 ?k5 ?kK ?kd ?ku ?_; (case k2 => k_asm); (case k4 => k_asm); (case H => exact H.mono (fun p hp => by repeat (first | exact hp | refine List.mem_cons_of_mem _ ?_))); (case hc => exact (code_ok hT _).1); (case k1 => k_asm); (case k3 => k_asm); (case k5 => k_asm); (case kK => first | exact rfl | assumption); (case kd => ktr_room); (case ku => ktr_units); intro r9 h9 tk9 R9 F9 N9 E9; clear E9; subst R9; (try dsimp only); (try k_fold))
  k_dflt k_enter
  k_steps
  · (rename News _ _ _ _ => kN9; refine' hret _ _ _ ⟨q, tq, rfl, Or.inr ⟨by assumption, hP3 _ (.stop fun h => absurd h.1 (by omega))⟩⟩ ?kF (cb_drop kN9 ?ks) ?kE; (case kF => assumption); (case kE => assumption); (case ks => exact fun p hp => by repeat (first | exact hp | refine List.mem_cons_of_mem _ ?_)))
  · (rename News _ _ _ _ => kN9; refine' hret _ _ _ ⟨q, tq, rfl, Or.inr ⟨by assumption, hP3 _ (.stop fun h => (bne_iff_ne.mp (by assumption)) h.2.1)⟩⟩ ?kF (cb_drop kN9 ?ks) ?kE; (case kF => assumption); (case kE => assumption); (case ks => exact fun p hp => by repeat (first | exact hp | refine List.mem_cons_of_mem _ ?_)))
  · (rename News _ _ _ _ => kN9; refine' hret _ _ _ ⟨q, tq, rfl, Or.inr ⟨by assumption, hP3 _ (.stop fun h => Bool.noConfusion (h.2.2.symm.trans (by assumption)))⟩⟩ ?kF (cb_drop kN9 ?ks) ?kE; (case kF => assumption); (case kE => assumption); (case ks => exact fun p hp => by repeat (first | exact hp | refine List.mem_cons_of_mem _ ?_)))
  · (rename News _ _ _ _ => kN9; refine' hret _ _ _ ⟨p, t1, rfl, Or.inl ⟨by assumption, rfl⟩⟩ ?kF (cb_drop kN9 ?ks) ?kE; (case kF => assumption); (case kE => assumption); (case ks => exact fun p hp => by repeat (first | exact hp | refine List.mem_cons_of_mem _ ?_)))
end
theorem walk_off_CC : True := by
  w_top off
  trivial
section
set_option maxHeartbeats 1000000
theorem kst_same0 {f : Str → Option Value} {z : Str} : ∀ {ps ps' : List (Str × Value)} (_ : ∀ p ∈ ps', z ≠ p.1) (_ : ps.map (·.1) = ps'.map (·.1)), kstB f ps z = f z
  | [], _, _, _ => rfl
  | p :: r, [], _, e => by simp at e
  | p :: r, p' :: r', h, e => by
    have e1 : p.1 = p'.1 := by simp at e; exact e.1
    have e2 : r.map (·.1) = r'.map (·.1) := by simp at e; exact e.2
    exact (if_neg (e1 ▸ h p' (.head _))).trans (kst_same0 (fun q hq => h q (.tail _ hq)) e2)

theorem in_tupK {prog : Program} {w : World} {A : Around} {E : Value → Shared → Prop} {s : Shared} {h₀ : Heap} {L D : Addr} {m : Str → Option Value} {K : Frag} {o : Obj} {vs : List Value} {n : Nat} (ks : List Str) {k : Str} {u : Tok} {Q : Value → Shared → Prop}
    (F : Fr h₀ L s.heap m) (X : K.In h₀) (hl : K.lookup D = some o) (hc : o.cls = .type "tuple") (hd : o.data = .seq vs.toArray n) (hi : StrsAre vs ks) (h : Q (.bool (ks.any (· == k))) s) : wpAny (model prog w) A (compareOp .In (.str k u) (.ref D)) Q E s :=
  in_tuple_strs ⟨o, (X.keeps F.keep) _ _ hl, hc, n, hd⟩ hi h
def inJ (c : Int) : Bool := [Str.ofString "Extend", Str.ofString "Linker"].any (· == iF c)
def linkF (T : List Int) (a j : Int) : Bool := ((T.drop a.toNat).take (j - a).toNat).any (fun c => iF c == Str.ofString "Linker")
theorem linkF_nil (T : List Int) (a : Int) : linkF T a a = false := by unfold linkF; simp
theorem linkF_step {T : List Int} {a j : Int} (h0 : 0 ≤ a) (h1 : a ≤ j) (h2 : j < T.length) : linkF T a (j + 1) = (linkF T a j || (iF (T.getD j.toNat 0) == Str.ofString "Linker")) := by
  unfold linkF
  have e : (j + 1 - a).toNat = (j - a).toNat + 1 := by omega
  have hl : j.toNat < T.length := by omega
  have e2 : (T.drop a.toNat)[(j - a).toNat]? = some (T.getD j.toNat 0) := by
    rw [List.getElem?_drop, show a.toNat + (j - a).toNat = j.toNat by omega, List.getElem?_eq_getElem hl]; simp [List.getD, hl]
  rw [e, List.take_add_one, List.any_append, e2]; simp
theorem inner_t {T : List Int} {q j : Int} {b : Bool} (hq0 : 0 ≤ q) (hR1 : q ≤ j) (hR3 : runI inJ T j = runI inJ T q) (hR4 : b = linkF T q j) (hj : j < T.length) (hi : ([Str.ofString "Extend", Str.ofString "Linker"].any (· == iF (T.getD j.toNat 0))) = true) (hb : b = true) :
    q ≤ j + 1 ∧ j + 1 ≤ T.length ∧ runI inJ T (j + 1) = runI inJ T q ∧ b = linkF T q (j + 1) := by
  refine ⟨by omega, by omega, (runI_step (by omega) hj hi).symm.trans hR3, ?_⟩
  rw [linkF_step hq0 hR1 hj, ← hR4, hb, Bool.true_or]
theorem inner_f {T : List Int} {q j : Int} {b : Bool} (hq0 : 0 ≤ q) (hR1 : q ≤ j) (hR3 : runI inJ T j = runI inJ T q) (hR4 : b = linkF T q j) (hj : j < T.length) (hi : ([Str.ofString "Extend", Str.ofString "Linker"].any (· == iF (T.getD j.toNat 0))) = true) (hb : b = false) :
    q ≤ j + 1 ∧ j + 1 ≤ T.length ∧ runI inJ T (j + 1) = runI inJ T q ∧ (iF (T.getD j.toNat 0) == Str.ofString "Linker") = linkF T q (j + 1) := by
  refine ⟨by omega, by omega, (runI_step (by omega) hj hi).symm.trans hR3, ?_⟩
  rw [linkF_step hq0 hR1 hj, ← hR4, hb, Bool.false_or]
def conC (T : List Int) (h : Int) : Prop := linkF T h (runI inJ T h) = true ∧ runI inJ T h < T.length ∧ iF (T.getD (runI inJ T h).toNat 0) = Str.ofString "Consonant"
inductive ConR (T : List Int) : Int → Int → Prop where
  | stop {h : Int} (c : ¬ conC T h) : ConR T h h
  | step {h r : Int} (c : conC T h) (k : ConR T (runI inJ T h + 1) r) : ConR T h r
def ConO (T : List Int) (p v : Int) : Prop := (iF (T.getD p.toNat 0) ≠ Str.ofString "Consonant" ∧ v = p) ∨ (iF (T.getD p.toNat 0) = Str.ofString "Consonant" ∧ ConR T (p + 1) v)
theorem e_in {T : List Int} {q j : Int} (hR3 : runI inJ T j = runI inJ T q) (h0 : 0 ≤ j) (hj : j < T.length) (hn : ([Str.ofString "Extend", Str.ofString "Linker"].any (· == iF (T.getD j.toNat 0))) = false) : runI inJ T q = j := hR3.symm.trans (runI_stop h0 hj hn)
theorem e_out {T : List Int} {q j : Int} (hR3 : runI inJ T j = runI inJ T q) (h0 : 0 ≤ j) (hj : ¬ j < T.length) : runI inJ T q = j := hR3.symm.trans (runI_end h0 (by omega))
theorem st_b {T : List Int} {q j : Int} {b : Bool} (e : runI inJ T q = j) (hR4 : b = linkF T q j) (hb : b = false) : ¬ conC T q := fun h => by have := h.1; rw [e, ← hR4, hb] at this; cases this
theorem st_l {T : List Int} {q j : Int} (e : runI inJ T q = j) (h : j = T.length) : ¬ conC T q := fun k => by have := k.2.1; rw [e] at this; omega
theorem st_c {T : List Int} {q j : Int} (e : runI inJ T q = j) (h : (iF (T.getD j.toNat 0) != Str.ofString "Consonant") = true) : ¬ conC T q := fun k => by have := k.2.2; rw [e] at this; exact bne_iff_ne.mp h this
theorem st_n {T : List Int} {q j r : Int} {b : Bool} (e : runI inJ T q = j) (hR4 : b = linkF T q j) (hb : b = true) (hj : j < T.length) (h : (iF (T.getD j.toNat 0) != Str.ofString "Consonant") = false) (k : ConR T (j + 1) r) : ConR T q r :=
  .step ⟨by rw [e, ← hR4]; exact hb, by rw [e]; exact hj, by rw [e]; exact bne_eq_false_iff_eq.mp h⟩ (by rw [e]; exact k)
theorem cluster_conjunct_end (w : World) (loose : List Str) (mean : ExcName → Option Value) (mg mb : Str → Option Value) (news : Led) (tx x : Addr) (p : Int) (t1 : Tok) (vT : List Value) (nT : Nat) (tc : List Int) (H : DataIn w news x)
    (hm : (tx, listOf vT.toArray nT) ∈ news) (hi : IntsAre vT tc) (hlen : tc.length < 1000) (hT : ∀ c ∈ tc, 0 ≤ c ∧ c < 2000000) (h0 : 0 ≤ p) (h1 : p < tc.length) :
    GivesP w loose mean mg mb 71 7 news [.ref tx, .int p t1, .ref x] (fun r => ∃ v t, r = .int v t ∧ ConO tc p v) := by
  obtain ⟨dx, ha9, hb9, hc9, hd9, ka9, kb9, kc9, kd9, od9, om9, op9, ow9, q1, q2⟩ := H.inst
  unfold GivesP
  k_fill
  intro dp un gd cn cs a ccd cl outer A₀ base h₀ L m s Q E B F X N T hk hd hu hret
  refine wpAny_call ?_
  have cE0 := InElt.start s.heap
  k_with_none
  k_with "exec While" => (rename Fr _ _ _ _ => lF'; rename News _ _ _ _ => lN'; refine' ksw_while (σ := Int × Nat) (fun _ => news) (fun c => [(Str.ofString "here", .int c.1 c.2)]) (fun _ => True) [Str.ofString "has_linker", Str.ofString "joint"] (fun c => p + 1 ≤ c.1 ∧ c.1 ≤ tc.length ∧ ∀ r, ConR tc c.1 r → ConR tc (p + 1) r) (fun c => (tc.length - c.1).toNat) (_,_) lF' lN' trivial ?kk ?kp ?_; (case kk => kst_all); (case kp => (dsimp only; exact ⟨Int.le_refl _, by omega, fun _ h => h⟩)); clear lF' lN'; intro c u h tk _ hP F' N'; obtain ⟨q, tq⟩ := c; dsimp only at hP; obtain ⟨hP1, hP2, hP3⟩ := hP; have hq0 : 0 ≤ q := by omega; (try k_fold))
  k_with "exec While BoolOp cons nil" => (rename Fr _ _ _ _ => lF'; rename News _ _ _ _ => lN'; refine' ksw_while (σ := Int × Nat) (fun _ => news) (fun c => [(Str.ofString "here", .int c.1 c.2)]) (fun _ => True) [Str.ofString "has_linker", Str.ofString "joint"] (fun c => p + 1 ≤ c.1 ∧ c.1 ≤ tc.length ∧ ∀ r, ConR tc c.1 r → ConR tc (p + 1) r) (fun c => (tc.length - c.1).toNat) (_,_) lF' lN' trivial ?kk ?kp ?_; (case kk => kst_all); (case kp => (dsimp only; exact ⟨Int.le_refl _, by omega, fun _ h => h⟩)); clear lF' lN'; intro c u h tk _ hP F' N'; obtain ⟨q, tq⟩ := c; dsimp only at hP; obtain ⟨hP1, hP2, hP3⟩ := hP; have hq0 : 0 ≤ q := by omega; (try k_fold))
  k_with "exec While BoolOp cons nil" => (rename Fr _ _ _ _ => lF'; rename News _ _ _ _ => lN'; refine' ksw_while (σ := Bool × (Int × Nat)) (fun _ => _) (fun c => [(Str.ofString "has_linker", .bool c.1), (Str.ofString "joint", .int c.2.1 c.2.2)]) (fun _ => True) [] (fun c => q ≤ c.2.1 ∧ c.2.1 ≤ tc.length ∧ runI inJ tc c.2.1 = runI inJ tc q ∧ c.1 = linkF tc q c.2.1) (fun c => (tc.length - c.2.1).toNat) (_,(_,_)) lF' lN' trivial ?kk ?kp ?_; (case kk => kst_all); (case kp => (dsimp only; exact ⟨Int.le_refl _, by omega, rfl, (linkF_nil _ _).symm⟩)); clear lF' lN'; intro c u h tk _ hP F' N'; obtain ⟨b, ⟨j, tj⟩⟩ := c; dsimp only at hP; obtain ⟨hR1, hR2, hR3, hR4⟩ := hP; (try k_fold))
  k_with "KswEnd" => (have e9 : runI inJ tc q = j := e_in hR3 (by omega) (by assumption) (by assumption); refine' ksw_end (σ := Int × Nat) (j + 1, _) ?yF ?yN ?yn trivial ?yk ?yr ?yp ?ym; (case yF => assumption); (case yN => assumption); (case yk => kst_all); (case yn => exact fun p hp => by repeat (first | exact hp | refine List.mem_cons_of_mem _ ?_)); (case yr => (intro z h2 h3; have hL := ne_of_contains h3 (.head _); have hJ := ne_of_contains h3 (.tail _ (.head _)); refine (if_neg (h2 _ (.head _))).trans ?_; refine Eq.trans (kst_same0 (ps' := [(Str.ofString "has_linker", .none), (Str.ofString "joint", .none)]) ?hh ?ee) ?_; (case hh => exact List.forall_mem_cons.mpr ⟨hL, List.forall_mem_cons.mpr ⟨hJ, fun _ h => nomatch h⟩⟩); (case ee => rfl); refine (if_neg Bool.false_ne_true).trans ?_; refine (if_neg hL).trans ?_; refine (if_neg hJ).trans ?_; exact kst_same2 h3 h2 rfl)); (case yp => ((dsimp only); exact ⟨by omega, by omega, fun r hr => hP3 r (st_n e9 hR4 (show b = true from by assumption) (by assumption) (by assumption) hr)⟩)); (case ym => (dsimp only; omega)))
  k_with "KswEnd" => (refine' ksw_end (σ := Bool × (Int × Nat)) (_, (j + 1, _)) ?zF ?zN ?zn trivial ?zk ?zr ?zp ?zm; (case zF => assumption); (case zN => assumption); (case zk => kst_all); (case zn => exact fun p hp => by repeat (first | exact hp | refine List.mem_cons_of_mem _ ?_)); (case zr => (intro z h2 h3; exact (if_neg (h2 _ (.tail _ (.head _)))).trans ((if_neg (h2 _ (.head _))).trans (kst_same0 h2 rfl)))); (case zp => ((dsimp only); first | exact inner_t hq0 hR1 hR3 hR4 (by assumption) (by assumption) (show b = true from by assumption) | exact inner_f hq0 hR1 hR3 hR4 (by assumption) (by assumption) (show b = false from by assumption))); (case zm => (dsimp only; omega)))
  k_with "compareOp In str ref" => (refine' in_tupK [Str.ofString "Extend", Str.ofString "Linker"] ?xF ?xX ?xl ?xc ?xd ?xi ?_; (case xF => k_asm); (case xX => k_asm); (case xl => with_unfolding_all rfl); (case xc => with_unfolding_all rfl); (case xd => with_unfolding_all rfl); (case xi => exact StrsAre.cons _ _ (StrsAre.cons _ _ StrsAre.nil)))
  k_with "call ref" => (refine' GivesP.use (incb_get _ _ _ _ _ _ _ _ _ _  ?H ?hc) ?k1 ?k2 ?k3 ?k4 ?k5 ?kK ?kd ?ku ?_; (case k2 => k_asm); (case k4 => k_asm); (case H => exact H.mono (fun p hp => by repeat (first | exact hp | refine List.mem_cons_of_mem _ ?_))); (case hc => exact (code_ok hT _).1); (case k1 => k_asm); (case k3 => k_asm); (case k5 => k_asm); (case kK => first | exact rfl | assumption); (case kd => ktr_room); (case ku => ktr_units); intro r9 h9 tk9 R9 F9 N9 E9; clear E9; obtain ⟨t9, e9⟩ := R9; subst e9; (try dsimp only); (try k_fold))
  k_dflt k_enter
  k_steps
  · (rename News _ _ _ _ => kN9; refine' hret _ _ _ ⟨p, t1, rfl, Or.inl ⟨bne_iff_ne.mp (by assumption), rfl⟩⟩ ?kF (cb_drop kN9 ?ks) ?kE; (case kF => assumption); (case kE => assumption); (case ks => exact fun p hp => by repeat (first | exact hp | refine List.mem_cons_of_mem _ ?_)))
  all_goals (have e9 : runI inJ tc q = j := by first | exact e_in hR3 (by omega) (by assumption) (by assumption) | exact e_out hR3 (by omega) (by omega))
  all_goals (have s9 : ¬ conC tc q := by first | exact st_b e9 hR4 (show b = false from by assumption) | exact st_c e9 (by assumption) | exact st_l e9 (by omega))
  all_goals (rename News _ _ _ _ => kN9; refine' hret _ _ _ ⟨q, tq, rfl, Or.inr ⟨bne_eq_false_iff_eq.mp (by assumption), hP3 _ (.stop s9)⟩⟩ ?kF (cb_drop kN9 ?ks) ?kE; (case kF => assumption); (case kE => assumption); (case ks => exact fun p hp => by repeat (first | exact hp | refine List.mem_cons_of_mem _ ?_)))
end
theorem walk_off_CD : True := by
  w_top off
  trivial
section
set_option maxHeartbeats 1000000
def CoreO (T : List Int) (p : Int) (leg : Bool) (v : Int) : Prop :=
  (kF (T.getD p.toNat 0) = Str.ofString "Regional_Indicator" ∧ v = min (runI (inK [Str.ofString "Regional_Indicator"]) T p) (p + 2)) ∨
  (kF (T.getD p.toNat 0) ≠ Str.ofString "Regional_Indicator" ∧ ∃ b, PicO T p b ∧ ((leg = true ∧ v = max (max (p + 1) (sylF T p)) b) ∨ (leg = false ∧ ∃ c, ConO T p c ∧ v = max (max (max (p + 1) (sylF T p)) b) c)))
theorem min_if (a b : Int) : (if a < b then a else b) = min b a := by split <;> omega
theorem cluster_core_end (w : World) (loose : List Str) (mean : ExcName → Option Value) (mg mb : Str → Option Value) (news : Led) (tx x : Addr) (p : Int) (leg : Bool) (t1 : Tok) (vT : List Value) (nT : Nat) (tc : List Int) (H : DataIn w news x)
    (hm : (tx, listOf vT.toArray nT) ∈ news) (hi : IntsAre vT tc) (hlen : tc.length < 1000) (hT : ∀ c ∈ tc, 0 ≤ c ∧ c < 2000000) (h0 : 0 ≤ p) (h1 : p < tc.length) :
    GivesP w loose mean mg mb 78 8 news [.ref tx, .int p t1, .ref x, .bool leg] (fun r => ∃ v t, r = .int v t ∧ CoreO tc p leg v) := by
  obtain ⟨dx, ha9, hb9, hc9, hd9, ka9, kb9, kc9, kd9, od9, om9, op9, ow9, q1, q2⟩ := H.inst
  unfold GivesP
  k_fill
  intro dp un gd cn cs a ccd cl outer A₀ base h₀ L m s Q E B F X N T hk hd hu hret
  refine wpAny_call ?_
  have cE0 := InElt.start s.heap
  k_with_none
  k_with "call ref" => first | (refine' GivesP.use (cluster_run _ _ _ _ _ _ _ _ _ _ _ _ _ _ _ _ ([Str.ofString "Regional_Indicator"]) ?H ?hm ?hkx ?hi ?hks ?hlen ?hT ?hp0 ?hp1) ?k1 ?k2 ?k3 ?k4 ?k5 ?kK ?kd ?ku ?_; (case k2 => k_asm); (case k4 => k_asm); (case hkx => (repeat (first | exact List.mem_cons_self .. | assumption | refine List.mem_cons_of_mem _ ?_))); (case H => exact H.mono (fun p hp => by repeat (first | exact hp | refine List.mem_cons_of_mem _ ?_))); (case hm => (repeat (first | exact List.mem_cons_self .. | assumption | refine List.mem_cons_of_mem _ ?_))); (case hi => assumption); (case hks => exact StrsAre.cons _ _ StrsAre.nil); (case hlen => assumption); (case hT => assumption); (case hp0 => omega); (case hp1 => omega); (case k1 => k_asm); (case k3 => k_asm); (case k5 => k_asm); (case kK => first | exact rfl | assumption); (case kd => ktr_room); (case ku => ktr_units); intro r9 h9 tk9 R9 F9 N9 E9; clear E9; obtain ⟨t9, e9, hb1, hb2⟩ := R9; subst e9; (try dsimp only); (try k_fold)) | (refine' GivesP.use (cluster_kind _ _ _ _ _ _ _ _ _  ?H ?hc ?hc2) ?k1 ?k2 ?k3 ?k4 ?k5 ?kK ?kd ?ku ?_; (case k2 => k_asm); (case k4 => k_asm); (case H => exact H.mono (fun p hp => by repeat (first | exact hp | refine List.mem_cons_of_mem _ ?_))); (case hc => exact (code_ok hT _).1); (case hc2 => exact (code_ok hT _).2); (case k1 => k_asm); (case k3 => k_asm); (case k5 => k_asm); (case kK => first | exact rfl | assumption); (case kd => ktr_room); (case ku => ktr_units); intro r9 h9 tk9 R9 F9 N9 E9; clear E9; obtain ⟨t9, e9⟩ := R9; subst e9; (try dsimp only); (try k_fold)) | (refine' GivesP.use (cluster_syllable_end _ _ _ _ _ _ _ _ _ _ _ _ _  ?H ?hm ?hi ?hlen ?hT ?hp0 ?hp1) ?k1 ?k2 ?k3 ?k4 ?k5 ?kK ?kd ?ku ?_; (case k2 => k_asm); (case k4 => k_asm); (case H => exact H.mono (fun p hp => by repeat (first | exact hp | refine List.mem_cons_of_mem _ ?_))); (case hm => repeat (first | exact List.mem_cons_self .. | assumption | refine List.mem_cons_of_mem _ ?_)); (case hi => assumption); (case hlen => assumption); (case hT => assumption); (case hp0 => omega); (case hp1 => omega); (case k1 => k_asm); (case k3 => k_asm); (case k5 => k_asm); (case kK => first | exact rfl | assumption); (case kd => ktr_room); (case ku => ktr_units); intro r9 h9 tk9 R9 F9 N9 E9; clear E9; obtain ⟨t9, e9⟩ := R9; subst e9; (try dsimp only); (try k_fold)) | (refine' GivesP.use (cluster_picture_end _ _ _ _ _ _ _ _ _ _ _ _ _  ?H ?hm ?hi ?hlen ?hT ?hp0 ?hp1) ?k1 ?k2 ?k3 ?k4 ?k5 ?kK ?kd ?ku ?_; (case k2 => k_asm); (case k4 => k_asm); (case H => exact H.mono (fun p hp => by repeat (first | exact hp | refine List.mem_cons_of_mem _ ?_))); (case hm => repeat (first | exact List.mem_cons_self .. | assumption | refine List.mem_cons_of_mem _ ?_)); (case hi => assumption); (case hlen => assumption); (case hT => assumption); (case hp0 => omega); (case hp1 => omega); (case k1 => k_asm); (case k3 => k_asm); (case k5 => k_asm); (case kK => first | exact rfl | assumption); (case kd => ktr_room); (case ku => ktr_units); intro r9 h9 tk9 R9 F9 N9 E9; clear E9; obtain ⟨v8, t9, e9, hpic⟩ := R9; subst e9; (try dsimp only); (try k_fold)) | (refine' GivesP.use (cluster_conjunct_end _ _ _ _ _ _ _ _ _ _ _ _ _  ?H ?hm ?hi ?hlen ?hT ?hp0 ?hp1) ?k1 ?k2 ?k3 ?k4 ?k5 ?kK ?kd ?ku ?_; (case k2 => k_asm); (case k4 => k_asm); (case H => exact H.mono (fun p hp => by repeat (first | exact hp | refine List.mem_cons_of_mem _ ?_))); (case hm => repeat (first | exact List.mem_cons_self .. | assumption | refine List.mem_cons_of_mem _ ?_)); (case hi => assumption); (case hlen => assumption); (case hT => assumption); (case hp0 => omega); (case hp1 => omega); (case k1 => k_asm); (case k3 => k_asm); (case k5 => k_asm); (case kK => first | exact rfl | assumption); (case kd => ktr_room); (case ku => ktr_units); intro r9 h9 tk9 R9 F9 N9 E9; clear E9; obtain ⟨v7, t9, e9, hcon⟩ := R9; subst e9; (try dsimp only); (try k_fold))
  k_dflt k_enter
  k_steps
  · (rename News _ _ _ _ => kN9; refine' hret _ _ _ ⟨_, _, rfl, Or.inl ⟨beq_iff_eq.mp (by assumption), min_if _ _⟩⟩ ?kF (cb_drop kN9 ?ks) ?kE; (case kF => assumption); (case kE => assumption); (case ks => exact fun p hp => by repeat (first | exact hp | refine List.mem_cons_of_mem _ ?_)))
  · (rename News _ _ _ _ => kN9; refine' hret _ _ _ ⟨_, _, rfl, Or.inr ⟨beq_eq_false_iff_ne.mp (by assumption), v8, hpic, Or.inl ⟨by assumption, by omega⟩⟩⟩ ?kF (cb_drop kN9 ?ks) ?kE; (case kF => assumption); (case kE => assumption); (case ks => exact fun p hp => by repeat (first | exact hp | refine List.mem_cons_of_mem _ ?_)))
  · (rename News _ _ _ _ => kN9; refine' hret _ _ _ ⟨_, _, rfl, Or.inr ⟨beq_eq_false_iff_ne.mp (by assumption), v8, hpic, Or.inr ⟨by assumption, v7, hcon, by omega⟩⟩⟩ ?kF (cb_drop kN9 ?ks) ?kE; (case kF => assumption); (case kE => assumption); (case ks => exact fun p hp => by repeat (first | exact hp | refine List.mem_cons_of_mem _ ?_)))
end
theorem walk_off_CK : True := by
  w_top off
  trivial
section
set_option maxHeartbeats 1000000
theorem data_put_old (w : World) (loose : List Str) (mean : ExcName → Option Value) (mg mb : Str → Option Value) (news : Led) (g : Obj → Led) (x dx od om op ow r d ls lv : Addr) (h1 h2 h3 e1 e2 e3 e4 : Int) (k1 k2 k3 j1 j2 j3 j4 : Tok) (D : Value) (O : Obj) (kvs : List (Str × Value)) (nm : Str) (tn : Tok) (vS vV : List Value) (S : List Int) (V : List Str) (nS nV : Nat) (c : Int) (t1 t2 t3 : Tok) (val b b2 : Str)
    (hx : (x, instObj 186 dx) ∈ news) (hdx : (dx, dtDict e1 e2 e3 e4 j1 j2 j3 j4 od om op ow) ∈ news) (hom : (om, O) ∈ news) (hO : O.IsDictOf (strKind PySem.Challenge.rw_on0368_01.row.prog w) kvs) (hmo : (om == sysModules) = false) (hv : valueAt kvs nm = some (.ref r))
    (hr : (r, instObj 137 d) ∈ news) (U : UpdF d (rmDict h1 h2 h3 k1 k2 k3 D ls lv) news g) (hdr : (d, rmDict h1 h2 h3 k1 k2 k3 D ls lv) ∈ news) (hls : (ls, listOf vS.toArray nS) ∈ news) (hlv : (lv, listOf vV.toArray nV) ∈ news) (nr : r ≠ d) (nls : ls ≠ d) (nlv : lv ≠ d)
    (hiS : IntsAre vS S) (hiV : StrsAre vV V) (hs : S.Pairwise (· ≤ ·)) (hlen : S.length < 1000) (hlV : V.length = S.length)
    (hc0 : 0 < c) (hc1 : c < 1114111) (hlo : 0 < cnt S (c - 1)) (hhi : 0 < cnt S (c + 1)) (hb : V.getD (cnt S (c + 1) - 1) Str.empty = b) (hb2 : V.getD (cnt S (c - 1) - 1) Str.empty = b2) (hbn : b ≠ val) (hb2n : b2 ≠ val) :
    Gives w loose mean mg mb 169 6 news [.ref x, .str nm tn, .int c t1, .int c t2, .str val t3]
      (fun r news' => r = .none ∧ ∃ ls' lv' vS' vV', news' = (ls', listOf (List.toArray vS') 0) :: (lv', listOf (List.toArray vV') 0) :: g (rmDict h1 h2 h3 k1 k2 k3 D ls' lv') ∧ IntsAre vS' (S.take (cnt S (c - 1)) ++ [c, c + 1] ++ S.drop (cnt S (c + 1))) ∧ StrsAre vV' (V.take (cnt S (c - 1)) ++ [val, b] ++ V.drop (cnt S (c + 1)))
        ∧ AllLt ls' news ∧ AllLt lv' news ∧ ls' ≠ lv') := by
  unfold Gives
  k_fill
  intro dp un gd cn cs a ccd cl outer A₀ base h₀ L m s Q E B F X N T hk hd hu hret
  refine wpAny_call ?_
  have cE0 := InElt.start s.heap
  k_with_none
  k_with "compareOp NotIn str ref" => (refine' kdg_notin (knd := PySem.strKind _ _) ?N ?hp ?hd ?lo (strKind_is _ _ _ _) true ?hb ?_; (case N => k_asm); (case hp => exact hom); (case hd => exact hO); (case lo => exact hmo); (case hb => rw [hv]; rfl); (try dsimp only [Bool.not_true]))
  k_with "my key" => (refine' key_item ?N ?hp ?hd ?hl ?_; (case N => k_asm); (case hp => exact hom); (case hd => exact hO); (case hl => exact hv))
  k_with "call ref" => (refine' Gives.use (rm_putU _ _ _ _ _ _ _ _ _ _ _ _ _ _ _ _ _ _ _ _ _ _ _ _ _ _ _ _ _ _ _  ?U ?hx ?hls ?hlv ?nx ?nls ?nlv ?hiS ?hiV ?hs ?hlen ?hlV ?hc0 ?hc1 ?hlo ?hhi ?hb ?hb2 ?hbn ?hb2n) ?k1 ?k2 ?k3 ?k4 ?k5 ?kK ?kd ?ku ?_; (case k2 => k_asm); (case k4 => k_asm); (case U => exact U); (case hx => exact hr); (case hls => exact hls); (case hlv => exact hlv); (case nx => exact nr); (case nls => exact nls); (case nlv => exact nlv); (case hiS => assumption); (case hiV => assumption); (case hs => assumption); (case hlen => assumption); (case hlV => assumption); (case hc0 => assumption); (case hc1 => assumption); (case hlo => assumption); (case hhi => assumption); (case hb => assumption); (case hb2 => assumption); (case hbn => assumption); (case hb2n => assumption); (case k1 => k_asm); (case k3 => k_asm); (case k5 => k_asm); (case kK => first | exact rfl | assumption); (case kd => ktr_room); (case ku => ktr_units); intro r9 n9 h9 tk9 R9 F9 N9; obtain ⟨er9, ls9, lv9, vS9, vV9, en9, i19, i29, l19, l29, l39⟩ := R9; subst er9; subst en9; (try dsimp only); (try k_fold))
  k_dflt k_enter
  k_steps
  exact hret _ _ _ _ ⟨rfl, _, _, _, _, rfl, i19, i29, l19, l29, l39⟩ (by assumption) (by assumption)
end
theorem walk_off_CE : True := by
  w_top off
  trivial
section
set_option maxHeartbeats 1000000
theorem in_list {prog : Program} {w : World} {A : Around} {E : Value → Shared → Prop} {s : Shared} {h₀ : Heap} {L D : Addr} {news : List (Addr × Obj)} {vs : List Value} {n : Nat} {ks : List Str} {k : Str} {u : Tok} {Q : Value → Shared → Prop}
    (N : News h₀ L s.heap news) (hm : (D, listOf vs.toArray n) ∈ news) (hi : StrsAre vs ks) (h : Q (.bool (ks.any (· == k))) s) : wpAny (model prog w) A (compareOp .In (.str k u) (.ref D)) Q E s :=
  in_list_strs (PySem.IsL.isList (n := n) (N _ hm).1) hi h
theorem len_strs {prog : Program} {w : World} {A : Around} {E : Value → Shared → Prop} {s : Shared} {h₀ : Heap} {L D : Addr} {news : List (Addr × Obj)} {vs : List Value} {n : Nat} {ks : List Str} {Q : Value → Shared → Prop}
    (N : News h₀ L s.heap news) (hm : (D, listOf vs.toArray n) ∈ news) (hi : StrsAre vs ks) (hz : ks.length < 2 ^ 30) (h : Q (.int ks.length (s.toks + 1)) { s with toks := s.toks + 1 + 1 }) : wpAny (model prog w) A (call (.builtin "len") [.ref D]) Q E s := by
  have hl := hi.length
  refine Calls.call_len_list (PySem.IsL.isList (n := n) (N _ hm).1) (by rw [List.size_toArray]; omega) ?_
  rw [List.size_toArray, hl]; exact h
theorem ks_canLay : ∀ ns : List Str, (∀ x ∈ ns, PyData.strOk x = true) → PyData.canLayAll0 (ns.map PyData.str) = true
  | [], _ => rfl
  | x :: r, h => by simp [PyData.canLayAll0, PyData.canLay0, h x (List.mem_cons_self ..), ks_canLay r (fun y hy => h y (List.mem_cons_of_mem _ hy))]
theorem ks_depth : ∀ ns : List Str, PyData.depthAll (ns.map PyData.str) = 0
  | [] => rfl
  | _ :: r => by simp [PyData.depthAll, PyData.depth, ks_depth r]
theorem ks_shaped {ns : List Str} (h : ∀ x ∈ ns, PyData.strOk x = true) : SeqAt.shaped (.list (ns.map PyData.str)) = true := by
  simp [SeqAt.shaped, PyData.canLay0, PyData.depth, ks_canLay ns h, ks_depth]
theorem ks_sameAll : ∀ ns ms : List Str, PySem.Spec.sameAll (ns.map PyData.str) (ms.map PyData.str) = decide (ns = ms)
  | [], [] => by simp [PySem.Spec.sameAll]
  | [], _ :: _ => by simp [PySem.Spec.sameAll]
  | _ :: _, [] => by simp [PySem.Spec.sameAll]
  | a :: r, b :: t => by
    simp only [List.map_cons, PySem.Spec.sameAll, PySem.Spec.same, ks_sameAll r t]
    by_cases h : a = b <;> by_cases h' : r = t <;> simp [h, h']
theorem ks_same (ns ms : List Str) : PySem.Spec.same (.list (ns.map PyData.str)) (.list (ms.map PyData.str)) = decide (ns = ms) := by
  simp only [PySem.Spec.same]; exact ks_sameAll ns ms
theorem ks_carried : ∀ {vs : List Value} {ns : List Str}, StrsAre vs ns → CarriedAll vs (ns.map PyData.str)
  | _, _, .nil => .nil
  | _, _, .cons _ t r => .cons (.str _ t) (ks_carried r)
section
variable {prog : Program} {w : World} {A : Around} {E : Value → Shared → Prop} {s : Shared} {h₀ : Heap} {L a b : Addr} {news : List (Addr × Obj)} {xs ys : List Value} {ns ms : List Str} {n n2 : Nat} {Q : Value → Shared → Prop}
theorem eq_strs (N : News h₀ L s.heap news) (ha : (a, listOf xs.toArray n) ∈ news) (hb : (b, listOf ys.toArray n2) ∈ news) (hi : StrsAre xs ns) (hj : StrsAre ys ms) (oi : ∀ x ∈ ns, PyData.strOk x = true) (oj : ∀ x ∈ ms, PyData.strOk x = true) (hu : A.units + 64 < cLine) (h : Q (.bool (decide (ns = ms))) s) :
    wpAny (model prog w) A (compareOp .Eq (.ref a) (.ref b)) Q E s :=
  eq_dataH_same (reads_newData (PySem.IsL.isList (n := n) (N _ ha).1) (ks_carried hi)) (reads_newData (PySem.IsL.isList (n := n2) (N _ hb).1) (ks_carried hj)) (ks_shaped oi) (ks_shaped oj) hu (SeqAt.noMix_of_shape (.list .str) rfl _ _ (list_map_has fun _ => rfl) (list_map_has fun _ => rfl)) (by rw [ks_same]; exact h)
theorem ne_strs (N : News h₀ L s.heap news) (ha : (a, listOf xs.toArray n) ∈ news) (hb : (b, listOf ys.toArray n2) ∈ news) (hi : StrsAre xs ns) (hj : StrsAre ys ms) (oi : ∀ x ∈ ns, PyData.strOk x = true) (oj : ∀ x ∈ ms, PyData.strOk x = true) (hu : A.units + 64 < cLine) (h : Q (.bool (!decide (ns = ms))) s) :
    wpAny (model prog w) A (compareOp .NotEq (.ref a) (.ref b)) Q E s :=
  ne_dataH_same (reads_newData (PySem.IsL.isList (n := n) (N _ ha).1) (ks_carried hi)) (reads_newData (PySem.IsL.isList (n := n2) (N _ hb).1) (ks_carried hj)) (ks_shaped oi) (ks_shaped oj) hu (SeqAt.noMix_of_shape (.list .str) rfl _ _ (list_map_has fun _ => rfl) (list_map_has fun _ => rfl)) (by rw [ks_same]; exact h)
end
theorem take_drop_min {α : Type} (l : List α) (x y : Nat) : (l.drop (min x l.length)).take (min y l.length - min x l.length) = (l.drop x).take (y - x) := by
  by_cases h : l.length ≤ x
  · rw [Nat.min_eq_right h, List.drop_length, List.drop_eq_nil_of_le h]; simp
  · rw [Nat.min_eq_left (by omega : x ≤ l.length)]
    by_cases h2 : y ≤ l.length
    · rw [Nat.min_eq_left h2]
    · rw [Nat.min_eq_right (by omega : l.length ≤ y), List.take_of_length_le (by rw [List.length_drop]; omega), List.take_of_length_le (by rw [List.length_drop]; omega)]
theorem strs_drop {vs : List Value} {V : List Str} (h : StrsAre vs V) : ∀ k : Nat, StrsAre (vs.drop k) (V.drop k) := by
  induction h with
  | nil => intro k; simp; exact .nil
  | cons y t h2 ih =>
    intro k
    cases k with
    | zero => exact .cons y t h2
    | succ k => exact ih k
theorem slice_mid_strs {prog : Program} {w : World} {A : Around} {E : Value → Shared → Prop} {s : Shared} {h₀ : Heap} {L D : Addr} {m : Str → Option Value} {news : List (Addr × Obj)} {vs : List Value} {V : List Str} {n : Nat} {x y : Int} {t u : Tok} {Q : Value → Shared → Prop}
    {value slice : PySem.Expr} (F : Fr h₀ L s.heap m) (N : News h₀ L s.heap news) (hm : (D, listOf vs.toArray n) ∈ news) (hb : StrsAre vs V) (h0 : 0 ≤ x) (h1 : 0 ≤ y) (hz : V.length < 2 ^ 20)
    (h : ∀ D' ws h', Fr h₀ L h' m → News h₀ L h' ((D', listOf (List.toArray ws) 0) :: news) → (∀ p ∈ news, p.1 < D') → StrsAre ws ((V.drop x.toNat).take (y.toNat - x.toNat)) → Q (.ref D') { s with heap := h' })
    (hs : subscripted slice false (.ref D) (.ref s.heap.objs.size) = operate [.ref s.heap.objs.size, .ref D] (getItem (.ref D) (.ref s.heap.objs.size))) (ht : ∀ r, letTemporaryGo value (.ref D) r = pure ()) :
    wpAny (model prog w) A (subscriptTail value slice (.ref D) (.ref s.heap.objs.size)) Q E { s with heap := s.heap.push { cls := .type "slice", data := .fields #[.int x t, .int y u, .none] } } := by
  have hl := hb.length
  refine kmk_slice F N (PySem.IsL.isList (n := n) (N _ hm).1) (.int x t) (.int y u) (fun D' h' F' N' l1 => h D' (slicePick vs.toArray (some x) (some y) none).toList h' F' (by rw [Array.toArray_toList]; exact N') l1 ?_) hs ht (by rw [List.size_toArray, sizeLine_eq]; omega)
  have e : sliceBounds (some x) (some y) none vs.toArray.size = (((min x.toNat vs.toArray.size : Nat) : Int), ((min y.toNat vs.toArray.size : Nat) : Int), 1) := by
    simp only [sliceBounds, Option.getD_none, show (1 : Int) > 0 by decide, if_true, if_neg (show ¬ (x < 0) by omega), if_neg (show ¬ (y < 0) by omega)]
    congr 1
    · omega
    · congr 1
      omega
  rw [kmk_pick_nat _ e]
  show StrsAre ((vs.drop (min x.toNat vs.length)).take (min y.toNat vs.length - min x.toNat vs.length)) _
  rw [take_drop_min]
  exact strs_take (strs_drop hb _) _
theorem runS_step {P : Str → Bool} {l : List Str} {p : Int} (h0 : 0 ≤ p) (h : p < l.length) (hp : P (l.getD p.toNat Str.empty) = true) : runI P l p = runI P l (p + 1) := by
  have hl : p.toNat < l.length := by omega
  have e : (p + 1).toNat = p.toNat + 1 := by omega
  unfold runI; rw [e, runN_step hl (by simpa [List.getD, hl] using hp)]
theorem runS_stop {P : Str → Bool} {l : List Str} {p : Int} (h0 : 0 ≤ p) (h : p < l.length) (hp : P (l.getD p.toNat Str.empty) = false) : runI P l p = p := by
  have hl : p.toNat < l.length := by omega
  unfold runI; rw [runN_stop hl (by simpa [List.getD, hl] using hp)]; omega
def inS (ks : List Str) (c : Str) : Bool := ks.any (· == c)
theorem law_run0 (w : World) (loose : List Str) (mean : ExcName → Option Value) (mg mb : Str → Option Value) (news : Led) (sx kx : Addr) (p : Int) (t1 : Tok) (vS vk : List Value) (nS nk : Nat) (so ks : List Str)
    (hm : (sx, listOf vS.toArray nS) ∈ news) (hi : StrsAre vS so) (hlen : so.length < 1000) (hkx : (kx, listOf vk.toArray nk) ∈ news) (hks : StrsAre vk ks) (h0 : 0 ≤ p) (h1 : p ≤ so.length) :
    GivesP w loose mean mg mb 229 2 news [.ref sx, .int p t1, .ref kx] (fun r => ∃ t, r = .int (runI (inS ks) so p) t) := by
  unfold GivesP
  k_fill
  intro dp un gd cn cs a ccd cl outer A₀ base h₀ L m s Q E B F X N T hk hd hu hret
  refine wpAny_call ?_
  have cE0 := InElt.start s.heap
  k_with_none
  k_with "exec While" => (rename Fr _ _ _ _ => lF'; rename News _ _ _ _ => lN'; refine' ksw_while (σ := Int × Nat) (fun _ => news) (fun c => [(Str.ofString "at", .int c.1 c.2)]) (fun _ => True) [] (fun c => 0 ≤ c.1 ∧ c.1 ≤ so.length ∧ runI (inS ks) so c.1 = runI (inS ks) so p) (fun c => (so.length - c.1).toNat) (_,_) lF' lN' trivial ?kk ?kp ?_; (case kk => kst_all); (case kp => (dsimp only; exact ⟨h0, h1, rfl⟩)); clear lF' lN'; intro c u h tk _ hP F' N'; obtain ⟨q, tq⟩ := c; dsimp only at hP; obtain ⟨hP1, hP2, hP3⟩ := hP; (try k_fold))
  k_with "exec While BoolOp cons nil" => (rename Fr _ _ _ _ => lF'; rename News _ _ _ _ => lN'; refine' ksw_while (σ := Int × Nat) (fun _ => news) (fun c => [(Str.ofString "at", .int c.1 c.2)]) (fun _ => True) [] (fun c => 0 ≤ c.1 ∧ c.1 ≤ so.length ∧ runI (inS ks) so c.1 = runI (inS ks) so p) (fun c => (so.length - c.1).toNat) (_,_) lF' lN' trivial ?kk ?kp ?_; (case kk => kst_all); (case kp => (dsimp only; exact ⟨h0, h1, rfl⟩)); clear lF' lN'; intro c u h tk _ hP F' N'; obtain ⟨q, tq⟩ := c; dsimp only at hP; obtain ⟨hP1, hP2, hP3⟩ := hP; (try k_fold))
  k_with "my item" => (refine' item_strs ?N ?m ?b ?h0 ?h1 ?hf ?hv ?_; (case N => k_asm); (case m => exact hm); (case b => exact hi); (case h0 => omega); (case h1 => omega); (case hf => omega); (case hv => rfl); intro t9)
  k_with "call builtin:len" => (refine' len_strs ?xN ?xm ?xi ?xz ?_; (case xN => k_asm); (case xm => exact hm); (case xi => exact hi); (case xz => omega))
  k_with "compareOp In str ref" => (refine' in_list ?xN ?xm ?xi ?_; (case xN => k_asm); (case xm => exact hkx); (case xi => exact hks))
  k_dflt k_enter
  k_steps
  · exact ksw_end (q + 1, _) (by assumption) (by assumption) (fun _ h => h) trivial (by kst_all) (by intro z h2 h3; repeat (first | exact kst_same2 h3 h2 rfl | (refine (if_neg ?hne).trans ?_; (case hne => first | exact h2 _ (.head _) | exact h2 _ (.tail _ (.head _)) | exact h2 _ (.tail _ (.tail _ (.head _))) | exact ne_of_contains h3 (.head _) | exact ne_of_contains h3 (.tail _ (.head _)) | exact ne_of_contains h3 (.tail _ (.tail _ (.head _))))))) ⟨by dsimp only; omega, by dsimp only; omega, (runS_step hP1 (by assumption) (by assumption)).symm.trans hP3⟩ (by dsimp only; omega)
  · exact hret _ _ _ (ktn_int ((runS_stop hP1 (by assumption) (by assumption)).symm.trans hP3)) (by assumption) (by assumption) (by assumption)
  · exact hret _ _ _ (ktn_int ((runI_end hP1 (by omega)).symm.trans hP3)) (by assumption) (by assumption) (by assumption)
theorem law_run (w : World) (loose : List Str) (mean : ExcName → Option Value) (mg mb : Str → Option Value) (news : Led) (sx kx : Addr) (p : Int) (t1 : Tok) (vS vk : List Value) (nS nk : Nat) (so ks : List Str)
    (hm : (sx, listOf vS.toArray nS) ∈ news) (hi : StrsAre vS so) (hlen : so.length < 1000) (hkx : (kx, listOf vk.toArray nk) ∈ news) (hks : StrsAre vk ks) (h0 : 0 ≤ p) (h1 : p ≤ so.length) :
    GivesP w loose mean mg mb 229 2 news [.ref sx, .int p t1, .ref kx] (fun r => ∃ t, r = .int (runI (inS ks) so p) t ∧ p ≤ runI (inS ks) so p ∧ runI (inS ks) so p ≤ so.length) :=
  (law_run0 _ _ _ _ _ _ _ _ _ _ _ _ _ _ _ _ hm hi hlen hkx hks h0 h1).mono fun _ ⟨t, e⟩ => ⟨t, e, runI_ge _ _ h0, runI_le _ _ h0 h1⟩
end
theorem walk_off_CF : True := by
  w_top off
  trivial
section
set_option maxHeartbeats 1000000
def sylS (S : List Str) (p : Int) : Int :=
  if (runI (inS [Str.ofString "L"]) S p) < S.length then
    if [Str.ofString "V", Str.ofString "LV"].any (· == S.getD (runI (inS [Str.ofString "L"]) S p).toNat Str.empty) = true then runI (inS [Str.ofString "T"]) S (runI (inS [Str.ofString "V"]) S ((runI (inS [Str.ofString "L"]) S p) + 1))
    else if (S.getD (runI (inS [Str.ofString "L"]) S p).toNat Str.empty == Str.ofString "LVT") = true then runI (inS [Str.ofString "T"]) S ((runI (inS [Str.ofString "L"]) S p) + 1)
    else if (runI (inS [Str.ofString "L"]) S p) = p then runI (inS [Str.ofString "T"]) S p else (runI (inS [Str.ofString "L"]) S p)
  else if (runI (inS [Str.ofString "L"]) S p) = p then runI (inS [Str.ofString "T"]) S p else (runI (inS [Str.ofString "L"]) S p)
theorem sylS1 {S : List Str} {p : Int} (a : (runI (inS [Str.ofString "L"]) S p) < S.length) (b : [Str.ofString "V", Str.ofString "LV"].any (· == S.getD (runI (inS [Str.ofString "L"]) S p).toNat Str.empty) = true) : runI (inS [Str.ofString "T"]) S (runI (inS [Str.ofString "V"]) S ((runI (inS [Str.ofString "L"]) S p) + 1)) = sylS S p := by
  unfold sylS; rw [if_pos a, if_pos b]
theorem sylS2 {S : List Str} {p : Int} (a : (runI (inS [Str.ofString "L"]) S p) < S.length) (b : [Str.ofString "V", Str.ofString "LV"].any (· == S.getD (runI (inS [Str.ofString "L"]) S p).toNat Str.empty) = false) (c : (S.getD (runI (inS [Str.ofString "L"]) S p).toNat Str.empty == Str.ofString "LVT") = true) : runI (inS [Str.ofString "T"]) S ((runI (inS [Str.ofString "L"]) S p) + 1) = sylS S p := by
  unfold sylS; rw [if_pos a, if_neg (Bool.eq_false_iff.mp b), if_pos c]
theorem sylS3 {S : List Str} {p : Int} (a : (runI (inS [Str.ofString "L"]) S p) < S.length) (b : [Str.ofString "V", Str.ofString "LV"].any (· == S.getD (runI (inS [Str.ofString "L"]) S p).toNat Str.empty) = false) (c : (S.getD (runI (inS [Str.ofString "L"]) S p).toNat Str.empty == Str.ofString "LVT") = false) (d : (runI (inS [Str.ofString "L"]) S p) = p) : runI (inS [Str.ofString "T"]) S p = sylS S p := by
  unfold sylS; rw [if_pos a, if_neg (Bool.eq_false_iff.mp b), if_neg (Bool.eq_false_iff.mp c), if_pos d]
theorem sylS4 {S : List Str} {p : Int} (a : (runI (inS [Str.ofString "L"]) S p) < S.length) (b : [Str.ofString "V", Str.ofString "LV"].any (· == S.getD (runI (inS [Str.ofString "L"]) S p).toNat Str.empty) = false) (c : (S.getD (runI (inS [Str.ofString "L"]) S p).toNat Str.empty == Str.ofString "LVT") = false) (d : (runI (inS [Str.ofString "L"]) S p) ≠ p) : (runI (inS [Str.ofString "L"]) S p) = sylS S p := by
  unfold sylS; rw [if_pos a, if_neg (Bool.eq_false_iff.mp b), if_neg (Bool.eq_false_iff.mp c), if_neg d]
theorem sylS5 {S : List Str} {p : Int} (a : ¬ (runI (inS [Str.ofString "L"]) S p) < S.length) (d : (runI (inS [Str.ofString "L"]) S p) = p) : runI (inS [Str.ofString "T"]) S p = sylS S p := by
  unfold sylS; rw [if_neg a, if_pos d]
theorem sylS6 {S : List Str} {p : Int} (a : ¬ (runI (inS [Str.ofString "L"]) S p) < S.length) (d : (runI (inS [Str.ofString "L"]) S p) ≠ p) : (runI (inS [Str.ofString "L"]) S p) = sylS S p := by
  unfold sylS; rw [if_neg a, if_neg d]

theorem law_syllable (w : World) (loose : List Str) (mean : ExcName → Option Value) (mg mb : Str → Option Value) (news : Led) (sx : Addr) (p : Int) (t1 : Tok) (vS : List Value) (nS : Nat) (so : List Str)
    (hm : (sx, listOf vS.toArray nS) ∈ news) (hi : StrsAre vS so) (hlen : so.length < 1000) (h0 : 0 ≤ p) (h1 : p ≤ so.length) :
    GivesP w loose mean mg mb 236 4 news [.ref sx, .int p t1] (fun r => ∃ t, r = .int (sylS so p) t) := by
  unfold GivesP
  k_fill
  intro dp un gd cn cs a ccd cl outer A₀ base h₀ L m s Q E B F X N T hk hd hu hret
  refine wpAny_call ?_
  have cE0 := InElt.start s.heap
  k_with_none
  k_with "call ref" => first | (refine' GivesP.use (law_run _ _ _ _ _ _ _ _ _ _ _ _ _ _ _ ([Str.ofString "L"]) ?hm ?hi ?hlen ?hkx ?hks ?hp0 ?hp1) ?k1 ?k2 ?k3 ?k4 ?k5 ?kK ?kd ?ku ?_; (case k2 => k_asm); (case k4 => k_asm); (case hkx => (repeat (first | exact List.mem_cons_self .. | assumption | refine List.mem_cons_of_mem _ ?_))); (case hm => (repeat (first | exact List.mem_cons_self .. | assumption | refine List.mem_cons_of_mem _ ?_))); (case hi => assumption); (case hks => exact StrsAre.cons _ _ (StrsAre.nil)); (case hlen => assumption); (case hp0 => omega); (case hp1 => omega); (case k1 => k_asm); (case k3 => k_asm); (case k5 => k_asm); (case kK => first | exact rfl | assumption); (case kd => ktr_room); (case ku => ktr_units); intro r9 h9 tk9 R9 F9 N9 E9; clear E9; obtain ⟨t9, e9, hb1, hb2⟩ := R9; subst e9; (try dsimp only); (try k_fold)) | (refine' GivesP.use (law_run _ _ _ _ _ _ _ _ _ _ _ _ _ _ _ ([Str.ofString "V"]) ?hm ?hi ?hlen ?hkx ?hks ?hp0 ?hp1) ?k1 ?k2 ?k3 ?k4 ?k5 ?kK ?kd ?ku ?_; (case k2 => k_asm); (case k4 => k_asm); (case hkx => (repeat (first | exact List.mem_cons_self .. | assumption | refine List.mem_cons_of_mem _ ?_))); (case hm => (repeat (first | exact List.mem_cons_self .. | assumption | refine List.mem_cons_of_mem _ ?_))); (case hi => assumption); (case hks => exact StrsAre.cons _ _ (StrsAre.nil)); (case hlen => assumption); (case hp0 => omega); (case hp1 => omega); (case k1 => k_asm); (case k3 => k_asm); (case k5 => k_asm); (case kK => first | exact rfl | assumption); (case kd => ktr_room); (case ku => ktr_units); intro r9 h9 tk9 R9 F9 N9 E9; clear E9; obtain ⟨t9, e9, hb1, hb2⟩ := R9; subst e9; (try dsimp only); (try k_fold)) | (refine' GivesP.use (law_run _ _ _ _ _ _ _ _ _ _ _ _ _ _ _ ([Str.ofString "T"]) ?hm ?hi ?hlen ?hkx ?hks ?hp0 ?hp1) ?k1 ?k2 ?k3 ?k4 ?k5 ?kK ?kd ?ku ?_; (case k2 => k_asm); (case k4 => k_asm); (case hkx => (repeat (first | exact List.mem_cons_self .. | assumption | refine List.mem_cons_of_mem _ ?_))); (case hm => (repeat (first | exact List.mem_cons_self .. | assumption | refine List.mem_cons_of_mem _ ?_))); (case hi => assumption); (case hks => exact StrsAre.cons _ _ (StrsAre.nil)); (case hlen => assumption); (case hp0 => omega); (case hp1 => omega); (case k1 => k_asm); (case k3 => k_asm); (case k5 => k_asm); (case kK => first | exact rfl | assumption); (case kd => ktr_room); (case ku => ktr_units); intro r9 h9 tk9 R9 F9 N9 E9; clear E9; obtain ⟨t9, e9, hb1, hb2⟩ := R9; subst e9; (try dsimp only); (try k_fold))
  k_with "call builtin:len" => (refine' len_strs ?xN ?xm ?xi ?xz ?_; (case xN => k_asm); (case xm => (repeat (first | exact List.mem_cons_self .. | assumption | refine List.mem_cons_of_mem _ ?_))); (case xi => exact hi); (case xz => omega))
  k_with "my item" => (refine' item_strs ?N ?m ?b ?h0 ?h1 ?hf ?hv ?_; (case N => k_asm); (case m => (repeat (first | exact List.mem_cons_self .. | assumption | refine List.mem_cons_of_mem _ ?_))); (case b => exact hi); (case h0 => omega); (case h1 => omega); (case hf => omega); (case hv => rfl); intro t9)
  k_dflt k_enter
  k_steps
  · (rename News _ _ _ _ => kN9; refine' hret _ _ _ (ktn_int (sylS1 (by assumption) (by assumption))) ?kF (cb_drop kN9 ?ks) ?kE; (case kF => assumption); (case kE => assumption); (case ks => exact fun p hp => by repeat (first | exact hp | refine List.mem_cons_of_mem _ ?_)))
  · (rename News _ _ _ _ => kN9; refine' hret _ _ _ (ktn_int (sylS2 (by assumption) (by assumption) (by assumption))) ?kF (cb_drop kN9 ?ks) ?kE; (case kF => assumption); (case kE => assumption); (case ks => exact fun p hp => by repeat (first | exact hp | refine List.mem_cons_of_mem _ ?_)))
  · (rename News _ _ _ _ => kN9; refine' hret _ _ _ (ktn_int (sylS3 (by assumption) (by assumption) (by assumption) (by assumption))) ?kF (cb_drop kN9 ?ks) ?kE; (case kF => assumption); (case kE => assumption); (case ks => exact fun p hp => by repeat (first | exact hp | refine List.mem_cons_of_mem _ ?_)))
  · (rename News _ _ _ _ => kN9; refine' hret _ _ _ (ktn_int (sylS4 (by assumption) (by assumption) (by assumption) (by assumption))) ?kF (cb_drop kN9 ?ks) ?kE; (case kF => assumption); (case kE => assumption); (case ks => exact fun p hp => by repeat (first | exact hp | refine List.mem_cons_of_mem _ ?_)))
  · (rename News _ _ _ _ => kN9; refine' hret _ _ _ (ktn_int (sylS5 (by assumption) (by assumption))) ?kF (cb_drop kN9 ?ks) ?kE; (case kF => assumption); (case kE => assumption); (case ks => exact fun p hp => by repeat (first | exact hp | refine List.mem_cons_of_mem _ ?_)))
  · (rename News _ _ _ _ => kN9; refine' hret _ _ _ (ktn_int (sylS6 (by assumption) (by assumption))) ?kF (cb_drop kN9 ?ks) ?kE; (case kF => assumption); (case kE => assumption); (case ks => exact fun p hp => by repeat (first | exact hp | refine List.mem_cons_of_mem _ ?_)))
end
theorem walk_off_CG : True := by
  w_top off
  trivial
section
set_option maxHeartbeats 1000000
def zpC (S : List Str) (h : Int) : Prop := (S.drop (runI (inS [Str.ofString "M", Str.ofString "B", Str.ofString "E"]) S h).toNat).take ((runI (inS [Str.ofString "M", Str.ofString "B", Str.ofString "E"]) S h + 2).toNat - (runI (inS [Str.ofString "M", Str.ofString "B", Str.ofString "E"]) S h).toNat) = [Str.ofString "Z", Str.ofString "P"]
inductive PicL (S : List Str) : Int → Int → Prop where
  | stop {h : Int} (c : ¬ zpC S h) : PicL S h h
  | step {h r : Int} (c : zpC S h) (k : PicL S (runI (inS [Str.ofString "M", Str.ofString "B", Str.ofString "E"]) S h + 2) r) : PicL S h r
def PicLO (S : List Str) (p v : Int) : Prop := (S.getD p.toNat Str.empty ≠ Str.ofString "P" ∧ v = p) ∨ (S.getD p.toNat Str.empty = Str.ofString "P" ∧ PicL S (p + 1) v)
theorem zp_len {S : List Str} {h : Int} (c : zpC S h) (h0 : 0 ≤ runI (inS [Str.ofString "M", Str.ofString "B", Str.ofString "E"]) S h) : runI (inS [Str.ofString "M", Str.ofString "B", Str.ofString "E"]) S h + 2 ≤ S.length := by
  have e := congrArg List.length c
  rw [List.length_take, List.length_drop] at e
  simp at e
  omega

theorem law_picture (w : World) (loose : List Str) (mean : ExcName → Option Value) (mg mb : Str → Option Value) (news : Led) (sx : Addr) (p : Int) (t1 : Tok) (vS : List Value) (nS : Nat) (so : List Str)
    (hm : (sx, listOf vS.toArray nS) ∈ news) (hi : StrsAre vS so) (hlen : so.length < 1000) (hok : ∀ x ∈ so, PyData.strOk x = true) (h0 : 0 ≤ p) (h1 : p < so.length) :
    GivesP w loose mean mg mb 243 12 news [.ref sx, .int p t1] (fun r => ∃ v t, r = .int v t ∧ PicLO so p v) := by
  unfold GivesP
  k_fill
  intro dp un gd cn cs a ccd cl outer A₀ base h₀ L m s Q E B F X N T hk hd hu hret
  refine wpAny_call ?_
  have cE0 := InElt.start s.heap
  k_with_none
  k_with "exec While" => (rename Fr _ _ _ _ => lF'; rename News _ _ _ _ => lN'; refine' ksw_while (σ := Int × Nat) (fun _ => news) (fun c => [(Str.ofString "end", .int c.1 c.2)]) (fun _ => True) [Str.ofString "joiner"] (fun c => p + 1 ≤ c.1 ∧ c.1 ≤ so.length ∧ ∀ r, PicL so c.1 r → PicL so (p + 1) r) (fun c => (so.length - c.1).toNat) (_,_) lF' lN' trivial ?kk ?kp ?_; (case kk => kst_all); (case kp => (dsimp only; exact ⟨Int.le_refl _, by omega, fun _ h => h⟩)); clear lF' lN'; intro c u h tk _ hP F' N'; obtain ⟨q, tq⟩ := c; dsimp only at hP; obtain ⟨hP1, hP2, hP3⟩ := hP; (try k_fold))
  k_with "exec While BoolOp cons nil" => (rename Fr _ _ _ _ => lF'; rename News _ _ _ _ => lN'; refine' ksw_while (σ := Int × Nat) (fun _ => news) (fun c => [(Str.ofString "end", .int c.1 c.2)]) (fun _ => True) [Str.ofString "joiner"] (fun c => p + 1 ≤ c.1 ∧ c.1 ≤ so.length ∧ ∀ r, PicL so c.1 r → PicL so (p + 1) r) (fun c => (so.length - c.1).toNat) (_,_) lF' lN' trivial ?kk ?kp ?_; (case kk => kst_all); (case kp => (dsimp only; exact ⟨Int.le_refl _, by omega, fun _ h => h⟩)); clear lF' lN'; intro c u h tk _ hP F' N'; obtain ⟨q, tq⟩ := c; dsimp only at hP; obtain ⟨hP1, hP2, hP3⟩ := hP; (try k_fold))
  k_with "call ref" => (refine' GivesP.use (law_run _ _ _ _ _ _ _ _ _ _ _ _ _ _ _ ([Str.ofString "M", Str.ofString "B", Str.ofString "E"]) ?hm ?hi ?hlen ?hkx ?hks ?hp0 ?hp1) ?k1 ?k2 ?k3 ?k4 ?k5 ?kK ?kd ?ku ?_; (case k2 => k_asm); (case k4 => k_asm); (case hkx => (repeat (first | exact List.mem_cons_self .. | assumption | refine List.mem_cons_of_mem _ ?_))); (case hm => (repeat (first | exact List.mem_cons_self .. | assumption | refine List.mem_cons_of_mem _ ?_))); (case hi => assumption); (case hks => exact StrsAre.cons _ _ (StrsAre.cons _ _ (StrsAre.cons _ _ (StrsAre.nil)))); (case hlen => assumption); (case hp0 => omega); (case hp1 => omega); (case k1 => k_asm); (case k3 => k_asm); (case k5 => k_asm); (case kK => first | exact rfl | assumption); (case kd => ktr_room); (case ku => ktr_units); intro r9 h9 tk9 R9 F9 N9 E9; clear E9; obtain ⟨t9, e9, hb1, hb2⟩ := R9; subst e9; (try dsimp only); (try k_fold))
  k_with "my slice" => (refine' slice_mid_strs ?F ?N ?m ?b ?h0 ?h1 ?hz ?_ ?s ?t; (case N => k_asm); (case m => (repeat (first | exact List.mem_cons_self .. | assumption | refine List.mem_cons_of_mem _ ?_))); (case b => exact hi); (case F => k_asm); (case h0 => omega); (case h1 => omega); (case hz => omega); (case s => with_unfolding_all rfl); (case t => (intro _; with_unfolding_all rfl)); intro D' ws' h' F' N' l1 hW'; (try k_lt l1); (try k_sweep))
  k_with "KswEnd" => (have z9 : zpC so q := (by assumption); have l9 := zp_len z9 (by omega); exact ksw_end (runI (inS [Str.ofString "M", Str.ofString "B", Str.ofString "E"]) so q + 2, _) (by assumption) (by assumption) (fun p hp => by repeat (first | exact hp | refine List.mem_cons_of_mem _ ?_)) trivial (by kst_all) (by intro z h2 h3; repeat (first | exact kst_same2 h3 h2 rfl | (refine (if_neg ?hne).trans ?_; (case hne => first | exact h2 _ (.head _) | exact h2 _ (.tail _ (.head _)) | exact h2 _ (.tail _ (.tail _ (.head _))) | exact ne_of_contains h3 (.head _) | exact ne_of_contains h3 (.tail _ (.head _)) | exact ne_of_contains h3 (.tail _ (.tail _ (.head _))))))) ⟨by dsimp only; omega, by dsimp only; omega, fun r hr => hP3 r (.step z9 hr)⟩ (by dsimp only; omega))
  k_with "call builtin:len" => (refine' len_strs ?xN ?xm ?xi ?xz ?_; (case xN => k_asm); (case xm => (repeat (first | exact List.mem_cons_self .. | assumption | refine List.mem_cons_of_mem _ ?_))); (case xi => exact hi); (case xz => omega))
  k_with "my item" => (refine' item_strs ?N ?m ?b ?h0 ?h1 ?hf ?hv ?_; (case N => k_asm); (case m => (repeat (first | exact List.mem_cons_self .. | assumption | refine List.mem_cons_of_mem _ ?_))); (case b => exact hi); (case h0 => omega); (case h1 => omega); (case hf => omega); (case hv => rfl); intro t9)
  k_with "compareOp NotEq ref ref" => (refine' ne_strs ?xN ?xa ?xb ?xi ?xj ?oi ?oj ?xu ?_; (case xN => k_asm); (case xa => (repeat (first | exact List.mem_cons_self .. | assumption | refine List.mem_cons_of_mem _ ?_))); (case xb => (repeat (first | exact List.mem_cons_self .. | assumption | refine List.mem_cons_of_mem _ ?_))); (case xi => first | assumption | exact StrsAre.cons _ _ StrsAre.nil | exact StrsAre.cons _ _ (StrsAre.cons _ _ StrsAre.nil)); (case xj => first | assumption | exact StrsAre.cons _ _ StrsAre.nil | exact StrsAre.cons _ _ (StrsAre.cons _ _ StrsAre.nil)); (case oi => first | exact hok | exact (fun x hx => hok x (List.mem_of_mem_drop (List.mem_of_mem_take hx))) | decide +kernel); (case oj => first | exact hok | exact (fun x hx => hok x (List.mem_of_mem_drop (List.mem_of_mem_take hx))) | decide +kernel); (case xu => units_room))
  k_dflt k_enter
  k_steps
  · (rename News _ _ _ _ => kN9; refine' hret _ _ _ ⟨p, t1, rfl, Or.inl ⟨bne_iff_ne.mp (by assumption), rfl⟩⟩ ?kF (cb_drop kN9 ?ks) ?kE; (case kF => assumption); (case kE => assumption); (case ks => exact fun p hp => by repeat (first | exact hp | refine List.mem_cons_of_mem _ ?_)))
  · (rename News _ _ _ _ => kN9; refine' hret _ _ _ ⟨q, tq, rfl, Or.inr ⟨bne_eq_false_iff_eq.mp (by assumption), hP3 _ (.stop (show ¬ zpC so q from by assumption))⟩⟩ ?kF (cb_drop kN9 ?ks) ?kE; (case kF => assumption); (case kE => assumption); (case ks => exact fun p hp => by repeat (first | exact hp | refine List.mem_cons_of_mem _ ?_)))
end
theorem walk_off_CH : True := by
  w_top off
  trivial
section
set_option maxHeartbeats 1000000
theorem notin_list {prog : Program} {w : World} {A : Around} {E : Value → Shared → Prop} {s : Shared} {h₀ : Heap} {L D : Addr} {news : List (Addr × Obj)} {vs : List Value} {n : Nat} {ks : List Str} {k : Str} {u : Tok} {Q : Value → Shared → Prop}
    (N : News h₀ L s.heap news) (hm : (D, listOf vs.toArray n) ∈ news) (hi : StrsAre vs ks) (h : Q (.bool (!(ks.any (· == k)))) s) : wpAny (model prog w) A (compareOp .NotIn (.str k u) (.ref D)) Q E s :=
  notin_list_strs (PySem.IsL.isList (n := n) (N _ hm).1) hi h
def cnC (S : List Str) (h : Int) : Prop := ((S.drop h.toNat).take ((runI (inS [Str.ofString "M", Str.ofString "B", Str.ofString "E", Str.ofString "Z"]) S h).toNat - h.toNat)).any (· == Str.ofString "B") = true ∧ (S.drop (runI (inS [Str.ofString "M", Str.ofString "B", Str.ofString "E", Str.ofString "Z"]) S h).toNat).take ((runI (inS [Str.ofString "M", Str.ofString "B", Str.ofString "E", Str.ofString "Z"]) S h + 1).toNat - (runI (inS [Str.ofString "M", Str.ofString "B", Str.ofString "E", Str.ofString "Z"]) S h).toNat) = [Str.ofString "C"]
inductive ConL (S : List Str) : Int → Int → Prop where
  | stop {h : Int} (c : ¬ cnC S h) : ConL S h h
  | step {h r : Int} (c : cnC S h) (k : ConL S (runI (inS [Str.ofString "M", Str.ofString "B", Str.ofString "E", Str.ofString "Z"]) S h + 1) r) : ConL S h r
def ConLO (S : List Str) (p v : Int) : Prop := (S.getD p.toNat Str.empty ≠ Str.ofString "C" ∧ v = p) ∨ (S.getD p.toNat Str.empty = Str.ofString "C" ∧ ConL S (p + 1) v)
theorem cn_s1 {S : List Str} {h : Int} (c : ((S.drop h.toNat).take ((runI (inS [Str.ofString "M", Str.ofString "B", Str.ofString "E", Str.ofString "Z"]) S h).toNat - h.toNat)).any (· == Str.ofString "B") = false) : ¬ cnC S h := fun k => Bool.false_ne_true (c.symm.trans k.1)
theorem cn_s2 {S : List Str} {h : Int} (c : ¬ (S.drop (runI (inS [Str.ofString "M", Str.ofString "B", Str.ofString "E", Str.ofString "Z"]) S h).toNat).take ((runI (inS [Str.ofString "M", Str.ofString "B", Str.ofString "E", Str.ofString "Z"]) S h + 1).toNat - (runI (inS [Str.ofString "M", Str.ofString "B", Str.ofString "E", Str.ofString "Z"]) S h).toNat) = [Str.ofString "C"]) : ¬ cnC S h := fun k => c k.2
theorem cn_len {S : List Str} {h : Int} (c : (S.drop (runI (inS [Str.ofString "M", Str.ofString "B", Str.ofString "E", Str.ofString "Z"]) S h).toNat).take ((runI (inS [Str.ofString "M", Str.ofString "B", Str.ofString "E", Str.ofString "Z"]) S h + 1).toNat - (runI (inS [Str.ofString "M", Str.ofString "B", Str.ofString "E", Str.ofString "Z"]) S h).toNat) = [Str.ofString "C"]) (h0 : 0 ≤ runI (inS [Str.ofString "M", Str.ofString "B", Str.ofString "E", Str.ofString "Z"]) S h) : runI (inS [Str.ofString "M", Str.ofString "B", Str.ofString "E", Str.ofString "Z"]) S h + 1 ≤ S.length := by
  have e := congrArg List.length c
  rw [List.length_take, List.length_drop] at e
  simp at e
  omega

theorem law_conjunct (w : World) (loose : List Str) (mean : ExcName → Option Value) (mg mb : Str → Option Value) (news : Led) (sx : Addr) (p : Int) (t1 : Tok) (vS : List Value) (nS : Nat) (so : List Str)
    (hm : (sx, listOf vS.toArray nS) ∈ news) (hi : StrsAre vS so) (hlen : so.length < 1000) (hok : ∀ x ∈ so, PyData.strOk x = true) (h0 : 0 ≤ p) (h1 : p < so.length) :
    GivesP w loose mean mg mb 250 12 news [.ref sx, .int p t1] (fun r => ∃ v t, r = .int v t ∧ ConLO so p v) := by
  unfold GivesP
  k_fill
  intro dp un gd cn cs a ccd cl outer A₀ base h₀ L m s Q E B F X N T hk hd hu hret
  refine wpAny_call ?_
  have cE0 := InElt.start s.heap
  k_with_none
  k_with "exec While" => (rename Fr _ _ _ _ => lF'; rename News _ _ _ _ => lN'; refine' ksw_while (σ := Int × Nat) (fun _ => news) (fun c => [(Str.ofString "end", .int c.1 c.2)]) (fun _ => True) [Str.ofString "behind"] (fun c => p + 1 ≤ c.1 ∧ c.1 ≤ so.length ∧ ∀ r, ConL so c.1 r → ConL so (p + 1) r) (fun c => (so.length - c.1).toNat) (_,_) lF' lN' trivial ?kk ?kp ?_; (case kk => kst_all); (case kp => (dsimp only; exact ⟨Int.le_refl _, by omega, fun _ h => h⟩)); clear lF' lN'; intro c u h tk _ hP F' N'; obtain ⟨q, tq⟩ := c; dsimp only at hP; obtain ⟨hP1, hP2, hP3⟩ := hP; (try k_fold))
  k_with "exec While BoolOp cons nil" => (rename Fr _ _ _ _ => lF'; rename News _ _ _ _ => lN'; refine' ksw_while (σ := Int × Nat) (fun _ => news) (fun c => [(Str.ofString "end", .int c.1 c.2)]) (fun _ => True) [Str.ofString "behind"] (fun c => p + 1 ≤ c.1 ∧ c.1 ≤ so.length ∧ ∀ r, ConL so c.1 r → ConL so (p + 1) r) (fun c => (so.length - c.1).toNat) (_,_) lF' lN' trivial ?kk ?kp ?_; (case kk => kst_all); (case kp => (dsimp only; exact ⟨Int.le_refl _, by omega, fun _ h => h⟩)); clear lF' lN'; intro c u h tk _ hP F' N'; obtain ⟨q, tq⟩ := c; dsimp only at hP; obtain ⟨hP1, hP2, hP3⟩ := hP; (try k_fold))
  k_with "call ref" => (refine' GivesP.use (law_run _ _ _ _ _ _ _ _ _ _ _ _ _ _ _ ([Str.ofString "M", Str.ofString "B", Str.ofString "E", Str.ofString "Z"]) ?hm ?hi ?hlen ?hkx ?hks ?hp0 ?hp1) ?k1 ?k2 ?k3 ?k4 ?k5 ?kK ?kd ?ku ?_; (case k2 => k_asm); (case k4 => k_asm); (case hkx => (repeat (first | exact List.mem_cons_self .. | assumption | refine List.mem_cons_of_mem _ ?_))); (case hm => (repeat (first | exact List.mem_cons_self .. | assumption | refine List.mem_cons_of_mem _ ?_))); (case hi => assumption); (case hks => exact StrsAre.cons _ _ (StrsAre.cons _ _ (StrsAre.cons _ _ (StrsAre.cons _ _ (StrsAre.nil))))); (case hlen => assumption); (case hp0 => omega); (case hp1 => omega); (case k1 => k_asm); (case k3 => k_asm); (case k5 => k_asm); (case kK => first | exact rfl | assumption); (case kd => ktr_room); (case ku => ktr_units); intro r9 h9 tk9 R9 F9 N9 E9; clear E9; obtain ⟨t9, e9, hb1, hb2⟩ := R9; subst e9; (try dsimp only); (try k_fold))
  k_with "my slice" => (refine' slice_mid_strs ?F ?N ?m ?b ?h0 ?h1 ?hz ?_ ?s ?t; (case N => k_asm); (case m => (repeat (first | exact List.mem_cons_self .. | assumption | refine List.mem_cons_of_mem _ ?_))); (case b => exact hi); (case F => k_asm); (case h0 => omega); (case h1 => omega); (case hz => omega); (case s => with_unfolding_all rfl); (case t => (intro _; with_unfolding_all rfl)); intro D' ws' h' F' N' l1 hW'; (try k_lt l1); (try k_sweep))
  k_with "KswEnd" => (have z9 : cnC so q := (by exact ⟨by assumption, by assumption⟩); have l9 := cn_len z9.2 (by omega); exact ksw_end (runI (inS [Str.ofString "M", Str.ofString "B", Str.ofString "E", Str.ofString "Z"]) so q + 1, _) (by assumption) (by assumption) (fun p hp => by repeat (first | exact hp | refine List.mem_cons_of_mem _ ?_)) trivial (by kst_all) (by intro z h2 h3; repeat (first | exact kst_same2 h3 h2 rfl | (refine (if_neg ?hne).trans ?_; (case hne => first | exact h2 _ (.head _) | exact h2 _ (.tail _ (.head _)) | exact h2 _ (.tail _ (.tail _ (.head _))) | exact ne_of_contains h3 (.head _) | exact ne_of_contains h3 (.tail _ (.head _)) | exact ne_of_contains h3 (.tail _ (.tail _ (.head _))))))) ⟨by dsimp only; omega, by dsimp only; omega, fun r hr => hP3 r (.step z9 hr)⟩ (by dsimp only; omega))
  k_with "call builtin:len" => (refine' len_strs ?xN ?xm ?xi ?xz ?_; (case xN => k_asm); (case xm => (repeat (first | exact List.mem_cons_self .. | assumption | refine List.mem_cons_of_mem _ ?_))); (case xi => exact hi); (case xz => omega))
  k_with "my item" => (refine' item_strs ?N ?m ?b ?h0 ?h1 ?hf ?hv ?_; (case N => k_asm); (case m => (repeat (first | exact List.mem_cons_self .. | assumption | refine List.mem_cons_of_mem _ ?_))); (case b => exact hi); (case h0 => omega); (case h1 => omega); (case hf => omega); (case hv => rfl); intro t9)
  k_with "compareOp NotIn str ref" => (refine' notin_list ?xN ?xm ?xi ?_; (case xN => k_asm); (case xm => (repeat (first | exact List.mem_cons_self .. | assumption | refine List.mem_cons_of_mem _ ?_))); (case xi => assumption))
  k_with "compareOp NotEq ref ref" => (refine' ne_strs ?xN ?xa ?xb ?xi ?xj ?oi ?oj ?xu ?_; (case xN => k_asm); (case xa => (repeat (first | exact List.mem_cons_self .. | assumption | refine List.mem_cons_of_mem _ ?_))); (case xb => (repeat (first | exact List.mem_cons_self .. | assumption | refine List.mem_cons_of_mem _ ?_))); (case xi => first | assumption | exact StrsAre.cons _ _ StrsAre.nil | exact StrsAre.cons _ _ (StrsAre.cons _ _ StrsAre.nil)); (case xj => first | assumption | exact StrsAre.cons _ _ StrsAre.nil | exact StrsAre.cons _ _ (StrsAre.cons _ _ StrsAre.nil)); (case oi => first | exact hok | exact (fun x hx => hok x (List.mem_of_mem_drop (List.mem_of_mem_take hx))) | decide +kernel); (case oj => first | exact hok | exact (fun x hx => hok x (List.mem_of_mem_drop (List.mem_of_mem_take hx))) | decide +kernel); (case xu => units_room))
  k_dflt k_enter
  k_steps
  · (rename News _ _ _ _ => kN9; refine' hret _ _ _ ⟨p, t1, rfl, Or.inl ⟨bne_iff_ne.mp (by assumption), rfl⟩⟩ ?kF (cb_drop kN9 ?ks) ?kE; (case kF => assumption); (case kE => assumption); (case ks => exact fun p hp => by repeat (first | exact hp | refine List.mem_cons_of_mem _ ?_)))
  · (rename News _ _ _ _ => kN9; refine' hret _ _ _ ⟨q, tq, rfl, Or.inr ⟨bne_eq_false_iff_eq.mp (by assumption), hP3 _ (.stop (cn_s2 (by assumption)))⟩⟩ ?kF (cb_drop kN9 ?ks) ?kE; (case kF => assumption); (case kE => assumption); (case ks => exact fun p hp => by repeat (first | exact hp | refine List.mem_cons_of_mem _ ?_)))
  · (rename News _ _ _ _ => kN9; refine' hret _ _ _ ⟨q, tq, rfl, Or.inr ⟨bne_eq_false_iff_eq.mp (by assumption), hP3 _ (.stop (cn_s1 (by assumption)))⟩⟩ ?kF (cb_drop kN9 ?ks) ?kE; (case kF => assumption); (case kE => assumption); (case ks => exact fun p hp => by repeat (first | exact hp | refine List.mem_cons_of_mem _ ?_)))
end
theorem walk_off_CI : True := by
  w_top off
  trivial
section
set_option maxHeartbeats 1000000
def CoreL (S : List Str) (p : Int) (leg : Bool) (v : Int) : Prop :=
  (S.getD p.toNat Str.empty = Str.ofString "R" ∧ v = if (S.drop (p + 1).toNat).take ((p + 2).toNat - (p + 1).toNat) = [Str.ofString "R"] then p + 2 else p + 1) ∨
  (S.getD p.toNat Str.empty ≠ Str.ofString "R" ∧ ∃ b, PicLO S p b ∧ ((leg = true ∧ v = max (max (p + 1) (sylS S p)) b) ∨ (leg = false ∧ ∃ c, ConLO S p c ∧ v = max (max (max (p + 1) (sylS S p)) b) c)))
theorem law_core (w : World) (loose : List Str) (mean : ExcName → Option Value) (mg mb : Str → Option Value) (news : Led) (sx : Addr) (p : Int) (leg : Bool) (t1 : Tok) (vS : List Value) (nS : Nat) (so : List Str)
    (hm : (sx, listOf vS.toArray nS) ∈ news) (hi : StrsAre vS so) (hlen : so.length < 1000) (hok : ∀ x ∈ so, PyData.strOk x = true) (h0 : 0 ≤ p) (h1 : p < so.length) :
    GivesP w loose mean mg mb 257 14 news [.ref sx, .int p t1, .bool leg] (fun r => ∃ v t, r = .int v t ∧ CoreL so p leg v) := by
  unfold GivesP
  k_fill
  intro dp un gd cn cs a ccd cl outer A₀ base h₀ L m s Q E B F X N T hk hd hu hret
  refine wpAny_call ?_
  have cE0 := InElt.start s.heap
  k_with_none
  k_with "call ref" => first | (refine' GivesP.use (law_syllable _ _ _ _ _ _ _ _ _ _ _ _  ?hm ?hi ?hlen ?hp0 ?hp1) ?k1 ?k2 ?k3 ?k4 ?k5 ?kK ?kd ?ku ?_; (case k2 => k_asm); (case k4 => k_asm); (case hm => repeat (first | exact List.mem_cons_self .. | assumption | refine List.mem_cons_of_mem _ ?_)); (case hi => assumption); (case hlen => assumption); (case hp0 => omega); (case hp1 => omega); (case k1 => k_asm); (case k3 => k_asm); (case k5 => k_asm); (case kK => first | exact rfl | assumption); (case kd => ktr_room); (case ku => ktr_units); intro r9 h9 tk9 R9 F9 N9 E9; clear E9; obtain ⟨t9, e9⟩ := R9; subst e9; (try dsimp only); (try k_fold)) | (refine' GivesP.use (law_picture _ _ _ _ _ _ _ _ _ _ _ _  ?hm ?hi ?hlen ?hok ?hp0 ?hp1) ?k1 ?k2 ?k3 ?k4 ?k5 ?kK ?kd ?ku ?_; (case k2 => k_asm); (case k4 => k_asm); (case hm => repeat (first | exact List.mem_cons_self .. | assumption | refine List.mem_cons_of_mem _ ?_)); (case hi => assumption); (case hlen => assumption); (case hok => assumption); (case hp0 => omega); (case hp1 => omega); (case k1 => k_asm); (case k3 => k_asm); (case k5 => k_asm); (case kK => first | exact rfl | assumption); (case kd => ktr_room); (case ku => ktr_units); intro r9 h9 tk9 R9 F9 N9 E9; clear E9; obtain ⟨v8, t9, e9, hpic⟩ := R9; subst e9; (try dsimp only); (try k_fold)) | (refine' GivesP.use (law_conjunct _ _ _ _ _ _ _ _ _ _ _ _  ?hm ?hi ?hlen ?hok ?hp0 ?hp1) ?k1 ?k2 ?k3 ?k4 ?k5 ?kK ?kd ?ku ?_; (case k2 => k_asm); (case k4 => k_asm); (case hm => repeat (first | exact List.mem_cons_self .. | assumption | refine List.mem_cons_of_mem _ ?_)); (case hi => assumption); (case hlen => assumption); (case hok => assumption); (case hp0 => omega); (case hp1 => omega); (case k1 => k_asm); (case k3 => k_asm); (case k5 => k_asm); (case kK => first | exact rfl | assumption); (case kd => ktr_room); (case ku => ktr_units); intro r9 h9 tk9 R9 F9 N9 E9; clear E9; obtain ⟨v7, t9, e9, hcon⟩ := R9; subst e9; (try dsimp only); (try k_fold))
  k_with "my slice" => (refine' slice_mid_strs ?F ?N ?m ?b ?h0 ?h1 ?hz ?_ ?s ?t; (case N => k_asm); (case m => (repeat (first | exact List.mem_cons_self .. | assumption | refine List.mem_cons_of_mem _ ?_))); (case b => exact hi); (case F => k_asm); (case h0 => omega); (case h1 => omega); (case hz => omega); (case s => with_unfolding_all rfl); (case t => (intro _; with_unfolding_all rfl)); intro D' ws' h' F' N' l1 hW'; (try k_lt l1); (try k_sweep))
  k_with "call builtin:len" => (refine' len_strs ?xN ?xm ?xi ?xz ?_; (case xN => k_asm); (case xm => (repeat (first | exact List.mem_cons_self .. | assumption | refine List.mem_cons_of_mem _ ?_))); (case xi => exact hi); (case xz => omega))
  k_with "my item" => (refine' item_strs ?N ?m ?b ?h0 ?h1 ?hf ?hv ?_; (case N => k_asm); (case m => (repeat (first | exact List.mem_cons_self .. | assumption | refine List.mem_cons_of_mem _ ?_))); (case b => exact hi); (case h0 => omega); (case h1 => omega); (case hf => omega); (case hv => rfl); intro t9)
  k_with "compareOp Eq ref ref" => (refine' eq_strs ?xN ?xa ?xb ?xi ?xj ?oi ?oj ?xu ?_; (case xN => k_asm); (case xa => (repeat (first | exact List.mem_cons_self .. | assumption | refine List.mem_cons_of_mem _ ?_))); (case xb => (repeat (first | exact List.mem_cons_self .. | assumption | refine List.mem_cons_of_mem _ ?_))); (case xi => first | assumption | exact StrsAre.cons _ _ StrsAre.nil | exact StrsAre.cons _ _ (StrsAre.cons _ _ StrsAre.nil)); (case xj => first | assumption | exact StrsAre.cons _ _ StrsAre.nil | exact StrsAre.cons _ _ (StrsAre.cons _ _ StrsAre.nil)); (case oi => first | exact hok | exact (fun x hx => hok x (List.mem_of_mem_drop (List.mem_of_mem_take hx))) | decide +kernel); (case oj => first | exact hok | exact (fun x hx => hok x (List.mem_of_mem_drop (List.mem_of_mem_take hx))) | decide +kernel); (case xu => units_room))
  k_dflt k_enter
  k_steps
  · (rename News _ _ _ _ => kN9; refine' hret _ _ _ ⟨_, _, rfl, Or.inl ⟨beq_iff_eq.mp (by assumption), (if_pos (by assumption)).symm⟩⟩ ?kF (cb_drop kN9 ?ks) ?kE; (case kF => assumption); (case kE => assumption); (case ks => exact fun p hp => by repeat (first | exact hp | refine List.mem_cons_of_mem _ ?_)))
  · (rename News _ _ _ _ => kN9; refine' hret _ _ _ ⟨_, _, rfl, Or.inl ⟨beq_iff_eq.mp (by assumption), (if_neg (by assumption)).symm⟩⟩ ?kF (cb_drop kN9 ?ks) ?kE; (case kF => assumption); (case kE => assumption); (case ks => exact fun p hp => by repeat (first | exact hp | refine List.mem_cons_of_mem _ ?_)))
  · (rename News _ _ _ _ => kN9; refine' hret _ _ _ ⟨_, _, rfl, Or.inr ⟨beq_eq_false_iff_ne.mp (by assumption), v8, hpic, Or.inl ⟨by assumption, by omega⟩⟩⟩ ?kF (cb_drop kN9 ?ks) ?kE; (case kF => assumption); (case kE => assumption); (case ks => exact fun p hp => by repeat (first | exact hp | refine List.mem_cons_of_mem _ ?_)))
  · (rename News _ _ _ _ => kN9; refine' hret _ _ _ ⟨_, _, rfl, Or.inr ⟨beq_eq_false_iff_ne.mp (by assumption), v8, hpic, Or.inr ⟨by assumption, v7, hcon, by omega⟩⟩⟩ ?kF (cb_drop kN9 ?ks) ?kE; (case kF => assumption); (case kE => assumption); (case ks => exact fun p hp => by repeat (first | exact hp | refine List.mem_cons_of_mem _ ?_)))
end
end
theorem walk_off_PL : True := by
  w_top off
  trivial
section

/-- the codes of the law's own table, and the sort of a code there -/
def menu : List Int := [4352, 4449, 4520, 44032, 44033, 127462, 128512, 8205, 768, 2325, 2381, 2364, 97, 13, 10, 2307]
def srt : List Str := ["L","V","T","LV","LVT","R","P","Z","M","C","B","E","o","o","o","o"].map Str.ofString
def sortF (c : Int) : Str := srt.getD (menu.findIdx (· == c)) Str.empty
theorem mk_L : ∀ c ∈ menu, inK [Str.ofString "L"] c = inS [Str.ofString "L"] (sortF c) := by decide
theorem mk_V : ∀ c ∈ menu, inK [Str.ofString "V"] c = inS [Str.ofString "V"] (sortF c) := by decide
theorem mk_T : ∀ c ∈ menu, inK [Str.ofString "T"] c = inS [Str.ofString "T"] (sortF c) := by decide
theorem mk_R : ∀ c ∈ menu, inK [Str.ofString "Regional_Indicator"] c = inS [Str.ofString "R"] (sortF c) := by decide
theorem mk_X : ∀ c ∈ menu, inK [Str.ofString "Extend"] c = inS [Str.ofString "M", Str.ofString "B", Str.ofString "E"] (sortF c) := by decide
theorem mk_J : ∀ c ∈ menu, inJ c = inS [Str.ofString "M", Str.ofString "B", Str.ofString "E", Str.ofString "Z"] (sortF c) := by decide
theorem mk_VL : ∀ c ∈ menu, ([Str.ofString "V", Str.ofString "LV"].any (· == kF c)) = ([Str.ofString "V", Str.ofString "LV"].any (· == sortF c)) := by decide
theorem mk_LVT : ∀ c ∈ menu, (kF c == Str.ofString "LVT") = (sortF c == Str.ofString "LVT") := by decide
theorem mk_T' : ∀ c ∈ menu, (kF c == Str.ofString "T") = inS [Str.ofString "T"] (sortF c) := by decide
theorem mk_R' : ∀ c ∈ menu, (kF c = Str.ofString "Regional_Indicator") ↔ sortF c = Str.ofString "R" := by decide
theorem mk_Z : ∀ c ∈ menu, (kF c = Str.ofString "ZWJ") ↔ sortF c = Str.ofString "Z" := by decide
theorem mk_P : ∀ c ∈ menu, (eF c = true) ↔ sortF c = Str.ofString "P" := by decide
theorem mk_B : ∀ c ∈ menu, (iF c == Str.ofString "Linker") = (sortF c == Str.ofString "B") := by decide
theorem mk_C : ∀ c ∈ menu, (iF c = Str.ofString "Consonant") ↔ sortF c = Str.ofString "C" := by decide
theorem mk_ok : ∀ c ∈ menu, PyData.strOk (sortF c) = true := by decide +kernel
theorem mk_code : ∀ c ∈ menu, 0 ≤ c ∧ c < 2000000 := by decide
section
variable {T : List Int} (hT : ∀ c ∈ T, c ∈ menu)
theorem runI_map {P : Int → Bool} {Q : Str → Bool} (hT : ∀ c ∈ T, c ∈ menu) (h : ∀ c ∈ menu, P c = Q (sortF c)) (p : Int) : runI P T p = runI Q (T.map sortF) p := by
  unfold runI runN
  rw [← List.map_drop, List.takeWhile_map, List.length_map]
  have e : ∀ l : List Int, (∀ c ∈ l, c ∈ menu) → l.takeWhile P = l.takeWhile (Q ∘ sortF) := by
    intro l hl
    induction l with
    | nil => rfl
    | cons a r ih =>
      have ha := h a (hl a (List.mem_cons_self ..))
      rw [List.takeWhile_cons, List.takeWhile_cons, ih fun c hc => hl c (List.mem_cons_of_mem _ hc)]
      simp only [Function.comp, ha]
  rw [e _ fun c hc => hT c (List.mem_of_mem_drop hc)]
theorem getD_mem {i : Nat} (hi : i < T.length) : T.getD i 0 ∈ T := by
  simp [List.getD, hi]
theorem getD_map {i : Nat} (hi : i < T.length) : (T.map sortF).getD i Str.empty = sortF (T.getD i 0) := by
  simp [List.getD, hi]
theorem syl_eq (hT : ∀ c ∈ T, c ∈ menu) {p : Int} (h0 : 0 ≤ p) : sylF T p = sylS (T.map sortF) p := by
  have eL := runI_map hT mk_L p
  have hge := runI_ge (inK [Str.ofString "L"]) T h0
  unfold sylF sylS
  rw [← eL, List.length_map]
  by_cases h : runI (inK [Str.ofString "L"]) T p < T.length
  · have hi : (runI (inK [Str.ofString "L"]) T p).toNat < T.length := by omega
    have hm := hT _ (getD_mem hi)
    rw [if_pos h, if_pos h, getD_map hi, mk_VL _ hm, mk_LVT _ hm, ← runI_map hT mk_V, ← runI_map hT mk_T, ← runI_map hT mk_T, ← runI_map hT mk_T]
    split
    · rfl
    · by_cases c : (sortF (T.getD (runI (inK [Str.ofString "L"]) T p).toNat 0) == Str.ofString "LVT") = true
      · rw [if_pos (Or.inl c), if_pos c]
      · rw [if_neg c]
        by_cases d : runI (inK [Str.ofString "L"]) T p = p
        · rw [if_pos d]
          rw [d] at h hm c ⊢
          by_cases t : (kF (T.getD p.toNat 0) == Str.ofString "T") = true
          · rw [if_pos (Or.inr ⟨t, rfl⟩)]
            rw [mk_T' _ hm, ← mk_T _ hm] at t
            exact (runI_step h0 h t).symm
          · rw [if_neg (fun k => k.elim c fun k => t k.1)]
            rw [mk_T' _ hm, ← mk_T _ hm] at t
            exact (runI_stop h0 h (Bool.eq_false_iff.mpr t)).symm
        · rw [if_neg d, if_neg (fun k => k.elim c fun k => d k.2)]
  · rw [if_neg h, if_neg h, ← runI_map hT mk_T]
    by_cases d : runI (inK [Str.ofString "L"]) T p = p
    · rw [if_pos d]
      rw [d] at h ⊢
      exact (runI_end h0 (by omega)).symm
    · rw [if_neg d]
theorem take2 {S : List Str} {j : Int} {x y : Str} (h0 : 0 ≤ j) : (S.drop j.toNat).take ((j + 2).toNat - j.toNat) = [x, y] ↔ j + 1 < S.length ∧ S.getD j.toNat Str.empty = x ∧ S.getD (j + 1).toNat Str.empty = y := by
  rw [show (j + 2).toNat - j.toNat = 2 by omega, show (j + 1).toNat = j.toNat + 1 by omega]
  by_cases h : j + 1 < S.length
  · have h1 : j.toNat < S.length := by omega
    have h2 : j.toNat + 1 < S.length := by omega
    rw [List.drop_eq_getElem_cons h1, List.drop_eq_getElem_cons h2]
    simp only [List.take_succ_cons, List.take_zero, List.cons.injEq, and_true, List.getD, List.getElem?_eq_getElem h1, List.getElem?_eq_getElem h2, Option.getD_some, h, true_and]
  · refine ⟨fun e => ?_, fun e => absurd e.1 h⟩
    have := congrArg List.length e
    rw [List.length_take, List.length_drop] at this
    simp at this
    omega
theorem take1 {S : List Str} {j : Int} {x : Str} (h0 : 0 ≤ j) : (S.drop j.toNat).take ((j + 1).toNat - j.toNat) = [x] ↔ j < S.length ∧ S.getD j.toNat Str.empty = x := by
  rw [show (j + 1).toNat - j.toNat = 1 by omega]
  by_cases h : j < S.length
  · have h1 : j.toNat < S.length := by omega
    rw [List.drop_eq_getElem_cons h1]
    simp only [List.take_succ_cons, List.take_zero, List.cons.injEq, and_true, List.getD, List.getElem?_eq_getElem h1, Option.getD_some, h, true_and]
  · refine ⟨fun e => ?_, fun e => absurd e.1 h⟩
    have := congrArg List.length e
    rw [List.length_take, List.length_drop] at this
    simp at this
    omega
theorem pic_iff (hT : ∀ c ∈ T, c ∈ menu) {h : Int} (h0 : 0 ≤ h) : picC T h ↔ zpC (T.map sortF) h := by
  unfold picC zpC
  rw [← runI_map hT mk_X]
  have hge := runI_ge (inK [Str.ofString "Extend"]) T h0
  rw [take2 (by omega), List.length_map]
  refine and_congr_right fun hl => ?_
  have h1 : (runI (inK [Str.ofString "Extend"]) T h).toNat < T.length := by omega
  have h2 : (runI (inK [Str.ofString "Extend"]) T h + 1).toNat < T.length := by omega
  rw [getD_map h1, getD_map h2, mk_Z _ (hT _ (getD_mem h1)), mk_P _ (hT _ (getD_mem h2))]
theorem pic_eq (hT : ∀ c ∈ T, c ∈ menu) {h v : Int} (k : PicR T h v) : ∀ {v' : Int}, 0 ≤ h → PicL (T.map sortF) h v' → v = v' := by
  induction k with
  | stop c =>
    intro v' h0 k'
    cases k' with
    | stop _ => rfl
    | step c' _ => exact absurd ((pic_iff hT h0).mpr c') c
  | step c _ ih =>
    intro v' h0 k'
    cases k' with
    | stop c' => exact absurd ((pic_iff hT h0).mp c) c'
    | step _ k' =>
      have hge := runI_ge (inK [Str.ofString "Extend"]) T h0
      rw [← runI_map hT mk_X] at k'
      exact ih (by omega) k'
theorem picO_eq (hT : ∀ c ∈ T, c ∈ menu) {p v v' : Int} (h0 : 0 ≤ p) (h1 : p < T.length) (k : PicO T p v) (k' : PicLO (T.map sortF) p v') : v = v' := by
  have hi : p.toNat < T.length := by omega
  have hp := mk_P _ (hT _ (getD_mem hi))
  unfold PicLO at k'
  rw [getD_map hi] at k'
  rcases k with ⟨a, e⟩ | ⟨a, r⟩ <;> rcases k' with ⟨a', e'⟩ | ⟨a', r'⟩
  · exact e.trans e'.symm
  · rw [hp.mpr a'] at a; cases a
  · exact absurd (hp.mp a) a'
  · exact pic_eq hT r (by omega) r'
theorem link_eq (hT : ∀ c ∈ T, c ∈ menu) {a j : Int} (h0 : 0 ≤ a) (h1 : a ≤ j) : linkF T a j = (((T.map sortF).drop a.toNat).take (j.toNat - a.toNat)).any (· == Str.ofString "B") := by
  unfold linkF
  rw [show (j - a).toNat = j.toNat - a.toNat by omega, ← List.map_drop, ← List.map_take, List.any_map]
  have e : ∀ l : List Int, (∀ c ∈ l, c ∈ menu) → l.any (fun c => iF c == Str.ofString "Linker") = l.any ((fun x => x == Str.ofString "B") ∘ sortF) := by
    intro l hl
    induction l with
    | nil => rfl
    | cons b r ih => rw [List.any_cons, List.any_cons, ih fun c hc => hl c (List.mem_cons_of_mem _ hc), mk_B b (hl b (List.mem_cons_self ..))]; rfl
  exact e _ fun c hc => hT c (List.mem_of_mem_drop (List.mem_of_mem_take hc))
theorem con_iff (hT : ∀ c ∈ T, c ∈ menu) {h : Int} (h0 : 0 ≤ h) : conC T h ↔ cnC (T.map sortF) h := by
  unfold conC cnC
  rw [← runI_map hT mk_J]
  have hge := runI_ge inJ T h0
  rw [take1 (by omega), List.length_map, link_eq hT h0 hge]
  refine and_congr_right fun _ => and_congr_right fun hl => ?_
  have h1 : (runI inJ T h).toNat < T.length := by omega
  rw [getD_map h1, mk_C _ (hT _ (getD_mem h1))]
theorem con_eq (hT : ∀ c ∈ T, c ∈ menu) {h v : Int} (k : ConR T h v) : ∀ {v' : Int}, 0 ≤ h → ConL (T.map sortF) h v' → v = v' := by
  induction k with
  | stop c =>
    intro v' h0 k'
    cases k' with
    | stop _ => rfl
    | step c' _ => exact absurd ((con_iff hT h0).mpr c') c
  | step c _ ih =>
    intro v' h0 k'
    cases k' with
    | stop c' => exact absurd ((con_iff hT h0).mp c) c'
    | step _ k' =>
      have hge := runI_ge inJ T h0
      rw [← runI_map hT mk_J] at k'
      exact ih (by omega) k'
theorem conO_eq (hT : ∀ c ∈ T, c ∈ menu) {p v v' : Int} (h0 : 0 ≤ p) (h1 : p < T.length) (k : ConO T p v) (k' : ConLO (T.map sortF) p v') : v = v' := by
  have hi : p.toNat < T.length := by omega
  have hp := mk_C _ (hT _ (getD_mem hi))
  unfold ConLO at k'
  rw [getD_map hi] at k'
  rcases k with ⟨a, e⟩ | ⟨a, r⟩ <;> rcases k' with ⟨a', e'⟩ | ⟨a', r'⟩
  · exact e.trans e'.symm
  · exact absurd (hp.mpr a') a
  · exact absurd (hp.mp a) a'
  · exact con_eq hT r (by omega) r'
theorem core_eq (hT : ∀ c ∈ T, c ∈ menu) {p v v' : Int} {leg : Bool} (h0 : 0 ≤ p) (h1 : p < T.length) (k : CoreO T p leg v) (k' : CoreL (T.map sortF) p leg v') : v = v' := by
  have hi : p.toNat < T.length := by omega
  have hm := hT _ (getD_mem hi)
  have hp := mk_R' _ hm
  unfold CoreL at k'
  rw [getD_map hi] at k'
  rcases k with ⟨a, e⟩ | ⟨a, b, pb, r⟩ <;> rcases k' with ⟨a', e'⟩ | ⟨a', b', pb', r'⟩
  · subst e; subst e'
    have tr : inK [Str.ofString "Regional_Indicator"] (T.getD p.toNat 0) = true := by rw [mk_R _ hm, a']; decide
    rw [runI_step h0 h1 tr]
    have hge := runI_ge (inK [Str.ofString "Regional_Indicator"]) T (p := p + 1) (by omega)
    have ht := take1 (S := T.map sortF) (j := p + 1) (x := Str.ofString "R") (by omega)
    rw [show p + 1 + 1 = p + 2 by omega] at ht
    by_cases c : ((T.map sortF).drop (p + 1).toNat).take ((p + 2).toNat - (p + 1).toNat) = [Str.ofString "R"]
    · rw [if_pos c]
      obtain ⟨l, g⟩ := ht.mp c
      rw [List.length_map] at l
      have hi2 : (p + 1).toNat < T.length := by omega
      rw [getD_map hi2] at g
      have t2 : inK [Str.ofString "Regional_Indicator"] (T.getD (p + 1).toNat 0) = true := by rw [mk_R _ (hT _ (getD_mem hi2)), g]; decide
      rw [runI_step (by omega) l t2]
      have := runI_ge (inK [Str.ofString "Regional_Indicator"]) T (p := p + 1 + 1) (by omega)
      omega
    · rw [if_neg c]
      by_cases l : p + 1 < T.length
      · have hi2 : (p + 1).toNat < T.length := by omega
        have t2 : inK [Str.ofString "Regional_Indicator"] (T.getD (p + 1).toNat 0) = false := by
          rw [Bool.eq_false_iff]
          intro t
          refine c (ht.mpr ⟨by rw [List.length_map]; exact l, ?_⟩)
          rw [getD_map hi2]
          rw [mk_R _ (hT _ (getD_mem hi2))] at t
          have := List.any_eq_true.mp t
          obtain ⟨x, hx, e⟩ := this
          rw [List.mem_singleton.mp hx] at e
          exact (beq_iff_eq.mp e).symm
        rw [runI_stop (by omega) l t2]; omega
      · rw [runI_end (by omega) (by omega)]; omega
  · exact absurd (hp.mp a) a'
  · exact absurd (hp.mpr a') a
  · have eb := picO_eq hT h0 h1 pb pb'
    subst eb
    rw [← syl_eq hT h0] at r'
    rcases r with ⟨l, e⟩ | ⟨l, c, pc, e⟩ <;> rcases r' with ⟨l', e'⟩ | ⟨l', c', pc', e'⟩
    · exact e.trans e'.symm
    · rw [l] at l'; cases l'
    · rw [l] at l'; cases l'
    · rw [conO_eq hT h0 h1 pc pc'] at e
      exact e.trans e'.symm
end
end
section
local macro_rules | `(tactic| news_mem) => `(tactic| assumption)
local macro_rules | `(tactic| k_all) => `(tactic| assumption)
local macro_rules | `(tactic| k_mem) => `(tactic| repeat (first | exact List.mem_cons_self .. | assumption | refine List.mem_cons_of_mem _ ?_))
local macro_rules | `(tactic| news_mem) => `(tactic| repeat (first | exact List.mem_cons_self .. | assumption | refine List.mem_cons_of_mem _ ?_))
local macro_rules | `(tactic| k_all) => `(tactic| first | (refine fun p hp => Nat.ne_of_lt (ktn_ltOf ?_ p hp); first | assumption | exact (by assumption : _ ∧ AllLt _ _).2 | exact (by assumption : _ ∧ _ ∧ AllLt _ _).2.2 | exact (by assumption : _ ∧ _ ∧ _ ∧ AllLt _ _).2.2.2 | exact (by assumption : _ ∧ _ ∧ _ ∧ _ ∧ AllLt _ _).2.2.2.2 | exact (by assumption : _ ∧ _ ∧ _ ∧ _ ∧ _ ∧ AllLt _ _).2.2.2.2.2 | exact (by assumption : _ ∧ _ ∧ _ ∧ _ ∧ _ ∧ _ ∧ AllLt _ _).2.2.2.2.2.2 | exact (by assumption : _ ∧ _ ∧ _ ∧ _ ∧ _ ∧ _ ∧ _ ∧ AllLt _ _).2.2.2.2.2.2.2 | exact (by assumption : _ ∧ _ ∧ _ ∧ _ ∧ _ ∧ _ ∧ _ ∧ _ ∧ AllLt _ _).2.2.2.2.2.2.2.2 | exact (by assumption : _ ∧ _ ∧ _ ∧ _ ∧ _ ∧ _ ∧ _ ∧ _ ∧ _ ∧ AllLt _ _).2.2.2.2.2.2.2.2.2 | exact (by assumption : _ ∧ _ ∧ _ ∧ _ ∧ _ ∧ _ ∧ _ ∧ _ ∧ _ ∧ _ ∧ AllLt _ _).2.2.2.2.2.2.2.2.2.2 | exact (by assumption : _ ∧ _ ∧ _ ∧ _ ∧ _ ∧ _ ∧ _ ∧ _ ∧ _ ∧ _ ∧ _ ∧ AllLt _ _).2.2.2.2.2.2.2.2.2.2.2 | exact (by assumption : _ ∧ _ ∧ _ ∧ _ ∧ _ ∧ _ ∧ _ ∧ _ ∧ _ ∧ _ ∧ _ ∧ _ ∧ AllLt _ _).2.2.2.2.2.2.2.2.2.2.2.2 | exact (by assumption : _ ∧ _ ∧ _ ∧ _ ∧ _ ∧ _ ∧ _ ∧ _ ∧ _ ∧ _ ∧ _ ∧ _ ∧ _ ∧ AllLt _ _).2.2.2.2.2.2.2.2.2.2.2.2.2))
theorem walk_off_CX : True := by
  w_top off
  trivial
section
set_option maxHeartbeats 4000000
theorem cnt0 {k : Int} (h : 0 ≤ k) : cnt [0] k = 1 := by
  unfold cnt; rw [List.takeWhile_cons]; simp [h]
theorem data_put_newG (w : World) (loose : List Str) (mean : ExcName → Option Value) (mg mb : Str → Option Value) (rest : Led) (x dx od om op ow : Addr) (e1 e2 e3 e4 : Int) (j1 j2 j3 j4 : Tok) (O OD : Obj) (kvs dkvs : List (Str × Value)) (nm : Str) (tn t1 t2 : Tok) (c : Int) (dflt val : Value) 
    (hx : (x, instObj 186 dx) ∈ rest) (hdx : (dx, dtDict e1 e2 e3 e4 j1 j2 j3 j4 od om op ow) ∈ rest) (hod : (od, OD) ∈ rest) (hOD : OD.IsDictOf (strKind PySem.Challenge.rw_on0368_01.row.prog w) dkvs) (hlod : (od == sysModules) = false) (hdv : valueAt dkvs nm = some dflt)
    (hO : O.IsDictOf (strKind PySem.Challenge.rw_on0368_01.row.prog w) kvs) (hmo : (om == sysModules) = false) (hv : valueAt kvs nm = none) (hkl : kvs.length ≤ 100) (hc0 : 0 < c) (hc1 : c < 1114111) (hlk : ∀ news, GivesP w loose mean mg mb 92 1 news [dflt, val] (fun r => r = .bool false)) (hne : ∀ p ∈ rest, p.1 ≠ om) :
    Gives w loose mean mg mb 169 6 ((om, O) :: rest) [.ref x, .str nm tn, .int c t1, .int c t2, val] (fun r news' => r = .none ∧ ∃ rr d ls lv h1 h2 h3 k1 k2 k3 vS vV O', news' = (ls, listOf (List.toArray vS) 0) :: (lv, listOf (List.toArray vV) 0) :: (d, rmDict h1 h2 h3 k1 k2 k3 dflt ls lv) :: (rr, instObj 137 d) :: (om, O') :: rest ∧ O'.IsDictOf (strKind PySem.Challenge.rw_on0368_01.row.prog w) (stored kvs nm (.ref rr)) ∧ IntsAre vS ([0].take (cnt [0] (c - 1)) ++ [c, c + 1] ++ [0].drop (cnt [0] (c + 1))) ∧ vV = [dflt].take (cnt [0] (c - 1)) ++ [val, dflt] ++ [dflt].drop (cnt [0] (c + 1)) ∧ (∀ p ∈ ((om, O) :: rest), p.1 ≠ d) ∧ (∀ p ∈ ((om, O) :: rest), p.1 ≠ rr) ∧ (∀ p ∈ ((om, O) :: rest), p.1 ≠ ls) ∧ (∀ p ∈ ((om, O) :: rest), p.1 ≠ lv) ∧ rr ≠ d ∧ ls ≠ d ∧ lv ≠ d) := by
  unfold Gives
  k_fill
  intro dp un gd cn cs a ccd cl outer A₀ base h₀ L m s Q E B F X N T hk hd hu hret
  refine wpAny_call ?_
  have cE0 := InElt.start s.heap
  k_with_none
  k_with "compareOp NotIn str ref" => (refine' kdg_notin (knd := PySem.strKind _ _) ?N ?hp ?hd ?lo (strKind_is _ _ _ _) false ?hb ?_; (case N => k_asm); (case hp => k_mem); (case hd => assumption); (case lo => exact hmo); (case hb => rw [hv]; rfl); (try dsimp only [Bool.not_false]))
  k_with "my key" => (refine' key_item ?N ?hp ?hd ?hl ?_; (case N => k_asm); (case hp => k_mem); (case hd => assumption); (case hl => rw [valueAt_put, if_pos rfl]))
  k_with "getMethod ref" => (refine' kdl_method (knd := PySem.strKind _ _) PySem.F.slot_dict_get PySem.F.type_dict_get ?N ?hp ?hd ?_; (case hd => exact hOD); (case N => k_asm); (case hp => (k_mem; done)))
  k_with "call builtin:dict.get" => (refine' kdg_get1 (knd := PySem.strKind _ _) ?N ?hp ?hd ?lo (strKind_is _ _ _ _) (some _) ?hl ?_; (case N => k_asm); (case hp => k_mem); (case hd => exact hOD); (case lo => exact hlod); (case hl => exact hdv); (try dsimp only [Option.getD]))
  k_with "setItem ref str" => (k_here; (rename News _ _ _ _ => lN9); (refine' kda_set (knd := strKind _ _) ?F lN9 ?U ?d (strKind_is _ _ _ _) ?z ?_); (case F => k_asm); (case U => k_updF); (case d => assumption); (case z => (rw [sizeLine_eq]; omega)); clear lN9; intro h' o' F' N' hd'; (try dsimp only at N'))
  k_with "call ref" => (refine' Gives.use (rm_putGU _ _ _ _ _ _ _ _ _ _ _ _ _ _ _ _ _ _ _ _ _ _ _ _ _ _ _ _ _ ?U ?hx ?hls ?hlv ?nx ?nls ?nlv ?hiS ?hs ?hlen ?hlV ?hc0 ?hc1 ?hlo ?hhi ?hb ?hb2 ?hk1 ?hk2) ?k1 ?k2 ?k3 ?k4 ?k5 ?kK ?kd ?ku ?_; (case k2 => k_asm); (case k4 => k_asm); (case hx => k_mem); (case U => k_updF); (case hls => k_mem); (case hlv => k_mem); (case nx => k_ne); (case nls => k_ne); (case nlv => k_ne); (case hiS => exact IntsAre.cons 0 _ IntsAre.nil); (case hs => decide); (case hlen => decide); (case hlV => rfl); (case hc0 => exact hc0); (case hc1 => exact hc1); (case hlo => exact Nat.lt_of_lt_of_eq Nat.zero_lt_one (cnt0 (by omega)).symm); (case hhi => exact Nat.lt_of_lt_of_eq Nat.zero_lt_one (cnt0 (by omega)).symm); (case hb => (rw [cnt0 (by omega)]; try rfl)); (case hb2 => (rw [cnt0 (by omega)]; try rfl)); (case hk1 => exact hlk); (case hk2 => exact hlk); (case k1 => k_asm); (case k3 => k_asm); (case k5 => k_asm); (case kK => first | exact rfl | assumption); (case kd => ktr_room); (case ku => ktr_units); intro r9 n9 h9 tk9 R9 F9 N9; obtain ⟨er9, ls9, lv9, vS9, en9, i19, l19, l29, l39⟩ := R9; subst er9; subst en9; (try dsimp only at l19 l29); simp only [AllLt, and_true] at l19 l29; (try dsimp only at N9); (try dsimp only); (try k_fold))
  k_dflt k_enter
  clear cE0
  k_steps
  all_goals ((rename News _ _ _ _ => kN9); refine' hret _ _ _ _ ⟨rfl, _, _, _, _, _, _, _, _, _, _, _, _, _, rfl, hd', i19, rfl, ?d1, ?d2, ?d3, ?d4, ?d5, ?d6, ?d7⟩ ?hF (cb_drop kN9 ?ks); (case hF => assumption); (case ks => kcf_all); (case d1 => k_all); (case d2 => exact List.forall_mem_cons.mpr ⟨by k_ne, fun p hp => Nat.ne_of_lt (Nat.lt_trans (ktn_ltOf (by assumption : _ ∧ AllLt _ _).2 p hp) (by assumption))⟩); (case d3 => k_all); (case d4 => k_all); (case d5 => k_ne); (case d6 => k_ne); (case d7 => k_ne))
theorem ep_I : ([0] : List Int).take (cnt [0] ((128512 : Int) - 1)) ++ [(128512 : Int), (128512 : Int) + 1] ++ ([0] : List Int).drop (cnt [0] ((128512 : Int) + 1)) = [0, 128512, 128513] := by
  rw [show cnt [0] ((128512 : Int) - 1) = 1 from cnt0 (by decide), show cnt [0] ((128512 : Int) + 1) = 1 from cnt0 (by decide)]
  rfl
theorem ep_V : [Value.bool false].take (cnt [0] ((128512 : Int) - 1)) ++ [Value.bool true, Value.bool false] ++ [Value.bool false].drop (cnt [0] ((128512 : Int) + 1)) = [Value.bool false, Value.bool true, Value.bool false] := by
  rw [show cnt [0] ((128512 : Int) - 1) = 1 from cnt0 (by decide), show cnt [0] ((128512 : Int) + 1) = 1 from cnt0 (by decide)]
  rfl
theorem one_strs (dflt : Str) (td : Tok) (k : Str) (t3 : Tok) (i j : Nat) : StrsAre ([Value.str dflt td].take i ++ [Value.str k t3, Value.str dflt td] ++ [Value.str dflt td].drop j) ([dflt].take i ++ [k, dflt] ++ [dflt].drop j) :=
  strs_app (strs_app (strs_take (StrsAre.cons dflt _ StrsAre.nil) _) (StrsAre.cons _ _ (StrsAre.cons _ _ StrsAre.nil))) ((StrsAre.cons dflt _ StrsAre.nil).drop' _)
end
theorem walk_off_CY : True := by
  w_top off
  trivial
section

section
variable {prog : Program} {w : World} {A : Around} {E : Value → Shared → Prop} {h₀ : Heap} {env : Env} {target : PySem.Expr} {body : List Stmt} {Q : Flow → Shared → Prop}
theorem items_J {s : Shared} {I ax : Addr} {lo : Obj} {vs : List Value} (J : Nat → (Str → Option Value) → Led → Prop) (hkeep : ∀ i m nx, J i m nx → (ax, lo) ∈ nx)
    (turn : ∀ i v m nx h tk o, vs[i]? = some v → J i m nx → (∀ p ∈ nx, p.1 ≠ I) → Fr h₀ env.locals h m → News h₀ env.locals h ((I, o) :: nx) → wpAny (model prog w) A (assign target env v) (fun _ s₂ => wpAny (model prog w) A (execs body env) (UnrPostW h₀ env.locals { s with heap := h, toks := tk } [(I, o)] (fun m' n' => J (i + 1) m' n') Q) E s₂) E { s with heap := h, toks := tk })
    (done : ∀ m nx h tk, J vs.length m nx → Fr h₀ env.locals h m → News h₀ env.locals h nx → Q .next { s with heap := h, toks := tk }) :
    ∀ (xs : List Value) (i : Nat) (m : Str → Option Value) (nx : Led), vs.drop i = xs → i ≤ vs.length → J i m nx → (∀ p ∈ nx, p.1 ≠ I) → ItemsRest prog w A E h₀ env target body Q s [(I, "tuple_iterator")] [(ax, lo)] (xs.map .val) m nx
  | [], i, m, nx, hd, hi, hJ, _ => by
    have e : i = vs.length := by have := congrArg List.length hd; simp at this; omega
    subst e
    exact ItemsRest.zero fun h tk F N => done m nx h tk hJ F N
  | v :: r, i, m, nx, hd, hi, hJ, hI => by
    have hv : vs[i]? = some v := by rw [← List.head?_drop, hd]; rfl
    have hr : vs.drop (i + 1) = r := by rw [← List.tail_drop, hd]; rfl
    have hl : i + 1 ≤ vs.length := (List.getElem?_eq_some_iff.mp hv).1
    refine ItemsRest.val fun h tk F => AllObj.cons fun o _ => AllObj.nil fun N => ?_
    refine wpAny_mono (turn i v m nx h tk o hv hJ hI F N) (fun _ s₂ h₂ => wpAny_mono h₂ (fun f s₃ p => ?_) fun _ _ e => e) fun _ _ e => e
    have up : UnrEndW h₀ env.locals { s with heap := h, toks := tk } [(I, o)] (fun m' n' => J (i + 1) m' n') s₃ → UnrEndW h₀ env.locals { s with heap := h, toks := tk } [(I, o)] (fun m' n' => SubL [(ax, lo)] n' ∧ ItemsRest prog w A E h₀ env target body Q s [(I, "tuple_iterator")] [(ax, lo)] (r.map .val) m' n') s₃ := by
      rintro ⟨h', tk', m', n', e, F', N', ho, hj⟩
      exact ⟨h', tk', m', n', e, F', N', ho, ⟨hkeep _ _ _ hj, trivial⟩, items_J J hkeep turn done r (i + 1) m' n' hr hl hj fun p hp => ho p hp (I, o) (List.mem_singleton.mpr rfl)⟩
    cases f with
    | ret v => exact p
    | brk => exact p
    | next => exact up p
    | cont => exact up p
theorem iter_tupJ {s : Shared} {ax : Addr} {lo : Obj} {vs : List Value} {n : Nat} {m₀ : Str → Option Value} {news : Led} (J : Nat → (Str → Option Value) → Led → Prop)
    (hh : A.handled = none) (F : Fr h₀ env.locals s.heap m₀) (N : News h₀ env.locals s.heap news) (hm : (ax, lo) ∈ news) (hc : lo.cls = .type "tuple") (hd : lo.data = .seq vs.toArray n) (hkeep : ∀ i m nx, J i m nx → (ax, lo) ∈ nx) (j0 : J 0 m₀ news)
    (turn : ∀ I i v m nx h tk o, vs[i]? = some v → J i m nx → (∀ p ∈ nx, p.1 ≠ I) → Fr h₀ env.locals h m → News h₀ env.locals h ((I, o) :: nx) → wpAny (model prog w) A (assign target env v) (fun _ s₂ => wpAny (model prog w) A (execs body env) (UnrPostW h₀ env.locals { s with heap := h, toks := tk } [(I, o)] (fun m' n' => J (i + 1) m' n') Q) E s₂) E { s with heap := h, toks := tk })
    (done : ∀ m nx h tk, J vs.length m nx → Fr h₀ env.locals h m → News h₀ env.locals h nx → Q .next { s with heap := h, toks := tk }) :
    wpAny (model prog w) A (pyIter (.ref ax)) (fun it s₂ => TurnsAt prog w A h₀ env target body Q E it s₂) E s :=
  iter_tupTurns hh F N hm hc hd fun I hI => items_J J hkeep (turn I) done vs 0 m₀ news rfl (Nat.zero_le _) j0 fun p hp => Nat.ne_of_lt (hI p hp)
end
def stp (s : List Int × List Str) (e : Int × Str) : List Int × List Str := (s.1.take (cnt s.1 (e.1 - 1)) ++ [e.1, e.1 + 1] ++ s.1.drop (cnt s.1 (e.1 + 1)), s.2.take (cnt s.1 (e.1 - 1)) ++ [e.2, s.2.getD (cnt s.1 (e.1 + 1) - 1) Str.empty] ++ s.2.drop (cnt s.1 (e.1 + 1)))
def SV (dflt : Str) (tab : List (Int × Str)) (i : Nat) : List Int × List Str := (tab.take i).foldl stp ([0], [dflt])
theorem SV_succ {dflt : Str} {tab : List (Int × Str)} {i : Nat} {e : Int × Str} (h : tab[i]? = some e) : SV dflt tab (i + 1) = stp (SV dflt tab i) e := by
  unfold SV; rw [List.take_add_one, h, Option.toList_some, List.foldl_append]; rfl
structure OkE (s : List Int × List Str) (e : Int × Str) : Prop where
  hs : s.1.Pairwise (· ≤ ·)
  hlen : s.1.length < 1000
  hlV : s.2.length = s.1.length
  hc0 : 0 < e.1
  hc1 : e.1 < 1114111
  hlo : 0 < cnt s.1 (e.1 - 1)
  hhi : 0 < cnt s.1 (e.1 + 1)
  hbn : s.2.getD (cnt s.1 (e.1 + 1) - 1) Str.empty ≠ e.2
  hb2n : s.2.getD (cnt s.1 (e.1 - 1) - 1) Str.empty ≠ e.2
def okE (s : List Int × List Str) (e : Int × Str) : Bool := decide (s.1.Pairwise (· ≤ ·)) && decide (s.1.length < 1000) && decide (s.2.length = s.1.length) && decide (0 < e.1) && decide (e.1 < 1114111) && decide (0 < cnt s.1 (e.1 - 1)) && decide (0 < cnt s.1 (e.1 + 1)) && decide (s.2.getD (cnt s.1 (e.1 + 1) - 1) Str.empty ≠ e.2) && decide (s.2.getD (cnt s.1 (e.1 - 1) - 1) Str.empty ≠ e.2)
theorem okE_is {s : List Int × List Str} {e : Int × Str} (h : okE s e = true) : OkE s e := by
  simp only [okE, Bool.and_eq_true, decide_eq_true_eq] at h
  obtain ⟨⟨⟨⟨⟨⟨⟨⟨a, b⟩, c⟩, d⟩, f⟩, g⟩, i⟩, j⟩, k⟩ := h
  exact ⟨a, b, c, d, f, g, i, j, k⟩
def okT (dflt : Str) (tab : List (Int × Str)) : Bool := (List.range tab.length).all fun i => match tab[i]? with | some e => okE (SV dflt tab i) e | none => true
theorem okT_at {dflt : Str} {tab : List (Int × Str)} (h : okT dflt tab = true) {i : Nat} {e : Int × Str} (hi : tab[i]? = some e) : OkE (SV dflt tab i) e := by
  have := List.all_eq_true.mp h i (List.mem_range.mpr (List.getElem?_eq_some_iff.mp hi).1)
  rw [hi] at this
  exact okE_is this
def GS (w : World) (om : Addr) (kvs0 : List (Str × Value)) (O0 : Obj) (rest : Led) (nm dflt : Str) (td : Tok) (tab : List (Int × Str)) : Nat → Led → Prop
  | 0, nx => nx = (om, O0) :: rest
  | i + 1, nx => ∃ rr d ls lv h1 h2 h3 k1 k2 k3 vS vV O', nx = (ls, listOf (List.toArray vS) 0) :: (lv, listOf (List.toArray vV) 0) :: (d, rmDict h1 h2 h3 k1 k2 k3 (.str dflt td) ls lv) :: (rr, instObj 137 d) :: (om, O') :: rest ∧ O'.IsDictOf (strKind PySem.Challenge.rw_on0368_01.row.prog w) (stored kvs0 nm (.ref rr))
      ∧ IntsAre vS (SV dflt tab (i + 1)).1 ∧ StrsAre vV (SV dflt tab (i + 1)).2 ∧ (∀ p ∈ (om, O') :: rest, p.1 ≠ d) ∧ rr ≠ d ∧ ls ≠ d ∧ lv ≠ d ∧ rr ≠ om ∧ ls ≠ om ∧ lv ≠ om
theorem GS.mem {w : World} {om : Addr} {kvs0 : List (Str × Value)} {O0 : Obj} {rest : Led} {nm dflt : Str} {td : Tok} {tab : List (Int × Str)} : ∀ {i : Nat} {nx : Led}, GS w om kvs0 O0 rest nm dflt td tab i nx → ∀ p ∈ rest, p ∈ nx
  | 0, _, h, p, hp => by cases h; exact List.mem_cons_of_mem _ hp
  | _ + 1, _, h, p, hp => by
    obtain ⟨_, _, _, _, _, _, _, _, _, _, _, _, _, e, _⟩ := h
    subst e
    exact List.mem_cons_of_mem _ (List.mem_cons_of_mem _ (List.mem_cons_of_mem _ (List.mem_cons_of_mem _ (List.mem_cons_of_mem _ hp))))
theorem put_gs (w : World) (loose : List Str) (mean : ExcName → Option Value) (mg mb : Str → Option Value) (rest : Led) (x dx od om op ow : Addr) (e1 e2 e3 e4 : Int) (j1 j2 j3 j4 : Tok) (O0 OD : Obj) (kvs0 dkvs : List (Str × Value)) (nm dflt : Str) (td : Tok) (tab : List (Int × Str))
    (hx : (x, instObj 186 dx) ∈ rest) (hdx : (dx, dtDict e1 e2 e3 e4 j1 j2 j3 j4 od om op ow) ∈ rest) (hod : (od, OD) ∈ rest) (hOD : OD.IsDictOf (strKind PySem.Challenge.rw_on0368_01.row.prog w) dkvs) (hlod : (od == sysModules) = false) (hdv : valueAt dkvs nm = some (.str dflt td))
    (hO : O0.IsDictOf (strKind PySem.Challenge.rw_on0368_01.row.prog w) kvs0) (hmo : (om == sysModules) = false) (hv : valueAt kvs0 nm = none) (hkl : kvs0.length ≤ 100) (hne : ∀ p ∈ rest, p.1 ≠ om) (hok : okT dflt tab = true)
    (i : Nat) (nx : Led) (G : GS w om kvs0 O0 rest nm dflt td tab i nx) (I : Addr) (o : Obj) (hI : ∀ p ∈ nx, p.1 ≠ I) (c : Int) (k : Str) (hi : tab[i]? = some (c, k)) (tn t1 t2 t3 : Tok) :
    Gives w loose mean mg mb 169 6 ((I, o) :: nx) [.ref x, .str nm tn, .int c t1, .int c t2, .str k t3] (fun r n' => r = .none ∧ ∃ nx', n' = (I, o) :: nx' ∧ GS w om kvs0 O0 rest nm dflt td tab (i + 1) nx' ∧ ∀ p ∈ nx', p.1 ≠ I) := by
  have K := okT_at hok hi
  cases i with
  | zero =>
    cases G
    have hIo : I ≠ om := fun e => hI _ (List.mem_cons_self ..) e.symm
    have hb : dflt ≠ k := by
      have h := K.hbn
      have e : cnt [0] (c + 1) = 1 := cnt0 (by have := K.hc0; show 0 ≤ c + 1; have h' : 0 < c := this; omega)
      show dflt ≠ k
      have h2 : (SV dflt tab 0).2.getD (cnt (SV dflt tab 0).1 (c + 1) - 1) Str.empty = dflt := by
        show [dflt].getD (cnt [0] (c + 1) - 1) Str.empty = dflt
        rw [e]; rfl
      rw [h2] at h
      exact h
    refine (data_put_newG w loose mean mg mb ((I, o) :: rest) x dx od om op ow e1 e2 e3 e4 j1 j2 j3 j4 O0 OD kvs0 dkvs nm tn t1 t2 c (.str dflt td) (.str k t3) (List.mem_cons_of_mem _ hx) (List.mem_cons_of_mem _ hdx) (List.mem_cons_of_mem _ hod) hOD hlod hdv hO hmo hv hkl K.hc0 K.hc1 (fun n => like_ne w loose mean mg mb n dflt k td t3 hb) (List.forall_mem_cons.mpr ⟨hIo, hne⟩)).perm ?_ ?_
    · intro p hp
      rcases List.mem_cons.mp hp with e | hp
      · exact e ▸ List.mem_cons_of_mem _ (List.mem_cons_self ..)
      · rcases List.mem_cons.mp hp with e | hp
        · exact e ▸ List.mem_cons_self ..
        · exact List.mem_cons_of_mem _ (List.mem_cons_of_mem _ hp)
    · rintro r n' ⟨er, rr, d, ls, lv, h1, h2, h3, k1, k2, k3, vS, vV, O', en, hO', i1, i2, fd, fr, fs, fv, n1, n2, n3⟩
      subst en
      obtain ⟨fd1, fd2⟩ := List.forall_mem_cons.mp fd
      obtain ⟨fd3, fd4⟩ := List.forall_mem_cons.mp fd2
      obtain ⟨fr1, fr2⟩ := List.forall_mem_cons.mp fr
      obtain ⟨fs1, fs2⟩ := List.forall_mem_cons.mp fs
      obtain ⟨fv1, fv2⟩ := List.forall_mem_cons.mp fv
      refine ⟨_, ⟨er, _, rfl, ⟨rr, d, ls, lv, h1, h2, h3, k1, k2, k3, vS, vV, O', rfl, hO', ?_, ?_, List.forall_mem_cons.mpr ⟨fd1, fd4⟩, n1, n2, n3, fun e => fr1 e.symm, fun e => fs1 e.symm, fun e => fv1 e.symm⟩, ?_⟩, ?_⟩
      · rw [SV_succ hi]; exact i1
      · rw [SV_succ hi]
        have e : cnt [0] (c + 1) = 1 := cnt0 (by have h' : 0 < c := K.hc0; omega)
        have h2 : [dflt].getD (cnt [0] (c + 1) - 1) Str.empty = dflt := by rw [e]; rfl
        show StrsAre vV ([dflt].take (cnt [0] (c - 1)) ++ [k, [dflt].getD (cnt [0] (c + 1) - 1) Str.empty] ++ [dflt].drop (cnt [0] (c + 1)))
        rw [h2, i2]; exact one_strs ..
      · intro p hp
        rcases List.mem_cons.mp hp with e | hp
        · rw [e]; exact fun e => (List.forall_mem_cons.mp fs2).1 e.symm
        · rcases List.mem_cons.mp hp with e | hp
          · rw [e]; exact fun e => (List.forall_mem_cons.mp fv2).1 e.symm
          · rcases List.mem_cons.mp hp with e | hp
            · rw [e]; exact fun e => fd3 e.symm
            · rcases List.mem_cons.mp hp with e | hp
              · rw [e]; exact fun e => (List.forall_mem_cons.mp fr2).1 e.symm
              · rcases List.mem_cons.mp hp with e | hp
                · rw [e]; exact fun e => hIo e.symm
                · exact hI p (List.mem_cons_of_mem _ hp)
      · kcf_all
  | succ i =>
    obtain ⟨rr, d, ls, lv, h1, h2, h3, k1, k2, k3, vS, vV, O', en, hO', i1, i2, fd, n1, n2, n3, n4, n5, n6⟩ := G
    subst en
    obtain ⟨fd1, fd2⟩ := List.forall_mem_cons.mp fd
    have hId : I ≠ d := fun e => hI (d, _) (List.mem_cons_of_mem _ (List.mem_cons_of_mem _ (List.mem_cons_self ..))) e.symm
    have U : UpdF d (rmDict h1 h2 h3 k1 k2 k3 (.str dflt td) ls lv) ((I, o) :: (ls, listOf (List.toArray vS) 0) :: (lv, listOf (List.toArray vV) 0) :: (d, rmDict h1 h2 h3 k1 k2 k3 (.str dflt td) ls lv) :: (rr, instObj 137 d) :: (om, O') :: rest) (fun Z => (I, o) :: (ls, listOf (List.toArray vS) 0) :: (lv, listOf (List.toArray vV) 0) :: (d, Z) :: (rr, instObj 137 d) :: (om, O') :: rest) :=
      UpdF.tail hId (UpdF.tail n2 (UpdF.tail n3 (UpdF.head (List.forall_mem_cons.mpr ⟨n1, fd⟩))))
    have M : ∀ p ∈ rest, p ∈ ((I, o) :: (ls, listOf (List.toArray vS) 0) :: (lv, listOf (List.toArray vV) 0) :: (d, rmDict h1 h2 h3 k1 k2 k3 (.str dflt td) ls lv) :: (rr, instObj 137 d) :: (om, O') :: rest) := by kcf_all
    refine (data_put_old w loose mean mg mb _ _ x dx od om op ow rr d ls lv h1 h2 h3 e1 e2 e3 e4 k1 k2 k3 j1 j2 j3 j4 (.str dflt td) O' (stored kvs0 nm (.ref rr)) nm tn vS vV (SV dflt tab (i + 1)).1 (SV dflt tab (i + 1)).2 0 0 c t1 t2 t3 k _ _ (M _ hx) (M _ hdx) (by kcf_m) hO' hmo (by rw [valueAt_put, if_pos rfl]) (by kcf_m) U (by kcf_m) (by kcf_m) (by kcf_m) n1 n2 n3 i1 i2 K.hs K.hlen K.hlV K.hc0 K.hc1 K.hlo K.hhi rfl rfl K.hbn K.hb2n).perm (fun p hp => hp) ?_
    rintro r n' ⟨er, ls', lv', vS', vV', en, q1, q2, l1, l2, l3⟩
    subst en
    have a1 := fun p hp => Nat.ne_of_lt (ktn_ltOf l1 p hp)
    have a2 := fun p hp => Nat.ne_of_lt (ktn_ltOf l2 p hp)
    refine ⟨_, ⟨er, _, rfl, ⟨rr, d, ls', lv', h1, h2, h3, k1, k2, k3, vS', vV', O', rfl, hO', ?_, ?_, fd, n1, fun e => a1 (d, _) (by kcf_m) e.symm, fun e => a2 (d, _) (by kcf_m) e.symm, n4, fun e => a1 (om, _) (by kcf_m) e.symm, fun e => a2 (om, _) (by kcf_m) e.symm⟩, ?_⟩, ?_⟩
    · rw [SV_succ hi]; exact q1
    · rw [SV_succ hi]; exact q2
    · intro p hp
      rcases List.mem_cons.mp hp with e | hp
      · rw [e]; exact fun e => a1 (I, o) (List.mem_cons_self ..) e.symm
      · rcases List.mem_cons.mp hp with e | hp
        · rw [e]; exact fun e => a2 (I, o) (List.mem_cons_self ..) e.symm
        · rcases List.mem_cons.mp hp with e | hp
          · rw [e]; exact fun e => hId e.symm
          · exact hI p (List.mem_cons_of_mem _ (List.mem_cons_of_mem _ (List.mem_cons_of_mem _ hp)))
    · kcf_all
end
theorem walk_off_CZ : True := by
  w_top off
  trivial
section

theorem news_front {h₀ h : Heap} {L : Addr} {l : Led} (i : Nat) (N : News h₀ L h l) : News h₀ L h ((l.drop i).take 1 ++ (l.take i ++ l.drop (i + 1))) := fun p hp => by
  rcases List.mem_append.mp hp with hp | hp
  · exact N p (List.mem_of_mem_drop (List.mem_of_mem_take hp))
  · rcases List.mem_append.mp hp with hp | hp
    · exact N p (List.mem_of_mem_take hp)
    · exact N p (List.mem_of_mem_drop hp)
abbrev tupO (c : Int) (u1 : Tok) (k : Str) (u2 : Tok) : Obj := { cls := .type "tuple", data := .seq #[.int c u1, .str k u2] }
def TabIn (R : Led) : List (Int × Str) → List Value → Prop
  | [], [] => True
  | (c, k) :: r, v :: q => (∃ t u1 u2, v = .ref t ∧ (t, tupO c u1 k u2) ∈ R) ∧ TabIn R r q
  | _, _ => False
theorem TabIn.at {R : Led} : ∀ {tab : List (Int × Str)} {vs : List Value}, TabIn R tab vs → ∀ {i : Nat} {v : Value}, vs[i]? = some v → ∃ t c k u1 u2, v = .ref t ∧ (t, tupO c u1 k u2) ∈ R ∧ tab[i]? = some (c, k)
  | [], [], _, i, v, h => by simp at h
  | [], _ :: _, T, _, _, _ => T.elim
  | _ :: _, [], T, _, _, _ => T.elim
  | (c, k) :: r, v :: q, T, 0, _, h => by
    obtain ⟨⟨t, u1, u2, e, m⟩, _⟩ := T
    have e2 : v = _ := Option.some.inj h
    exact ⟨t, c, k, u1, u2, e2 ▸ e, m, rfl⟩
  | (c, k) :: r, v :: q, T, i + 1, _, h => TabIn.at (tab := r) T.2 (i := i) h
structure PutH (w : World) (rest : Led) (x om : Addr) (O0 : Obj) (kvs0 : List (Str × Value)) (nm dflt : Str) (td : Tok) (tab : List (Int × Str)) : Prop where
  ex : ∃ dx od op ow e1 e2 e3 e4 j1 j2 j3 j4 OD dkvs, (x, instObj 186 dx) ∈ rest ∧ (dx, dtDict e1 e2 e3 e4 j1 j2 j3 j4 od om op ow) ∈ rest ∧ (od, OD) ∈ rest ∧ OD.IsDictOf (strKind PySem.Challenge.rw_on0368_01.row.prog w) dkvs ∧ (od == sysModules) = false ∧ valueAt dkvs nm = some (.str dflt td)
  hO : O0.IsDictOf (strKind PySem.Challenge.rw_on0368_01.row.prog w) kvs0
  hmo : (om == sysModules) = false
  hv : valueAt kvs0 nm = none
  hkl : kvs0.length ≤ 100
  hne : ∀ p ∈ rest, p.1 ≠ om
  hok : okT dflt tab = true
theorem put_gsH (w : World) (loose : List Str) (mean : ExcName → Option Value) (mg mb : Str → Option Value) (rest : Led) (x om : Addr) (O0 : Obj) (kvs0 : List (Str × Value)) (nm dflt : Str) (td : Tok) (tab : List (Int × Str)) (H : PutH w rest x om O0 kvs0 nm dflt td tab)
    (i : Nat) (nx : Led) (G : GS w om kvs0 O0 rest nm dflt td tab i nx) (I : Addr) (o : Obj) (hI : ∀ p ∈ nx, p.1 ≠ I) (c : Int) (k : Str) (hi : tab[i]? = some (c, k)) (tn t1 t2 t3 : Tok) :
    Gives w loose mean mg mb 169 6 ((I, o) :: nx) [.ref x, .str nm tn, .int c t1, .int c t2, .str k t3] (fun r n' => r = .none ∧ ∃ nx', n' = (I, o) :: nx' ∧ GS w om kvs0 O0 rest nm dflt td tab (i + 1) nx' ∧ ∀ p ∈ nx', p.1 ≠ I) := by
  obtain ⟨dx, od, op, ow, e1, e2, e3, e4, j1, j2, j3, j4, OD, dkvs, q1, q2, q3, q4, q5, q6⟩ := H.ex
  exact put_gs w loose mean mg mb rest x dx od om op ow e1 e2 e3 e4 j1 j2 j3 j4 O0 OD kvs0 dkvs nm dflt td tab q1 q2 q3 q4 q5 q6 H.hO H.hmo H.hv H.hkl H.hne H.hok i nx G I o hI c k hi tn t1 t2 t3
def FM (a b : Str) (u m₀ : Str → Option Value) : Str → Option Value := fun y => if y = b then u y else if y = a then u y else m₀ y
theorem fm_start (a b : Str) (m₀ : Str → Option Value) : m₀ = FM a b m₀ m₀ := by
  funext y; unfold FM; split
  · rfl
  · split <;> rfl
theorem fm_step {a b : Str} {u m₀ : Str → Option Value} {v1 v2 : Option Value} : (fun y => if y = b then v1 else if y = a then v2 else if y = b then u y else if y = a then u y else m₀ y) = FM a b (fun y => if y = b then v1 else v2) m₀ := by
  funext y; unfold FM
  by_cases h : y = b
  · rw [if_pos h, if_pos h]; exact (if_pos h).symm
  · by_cases h2 : y = a
    · rw [if_neg h, if_pos h2, if_neg h, if_pos h2]; exact (if_neg h).symm
    · rw [if_neg h, if_neg h2, if_neg h, if_neg h2, if_neg h, if_neg h2]
theorem loop_put {prog : Program} {w : World} {A : Around} {E : Value → Shared → Prop} {h₀ : Heap} {env : Env} {target : PySem.Expr} {body : List Stmt} {Q : Flow → Shared → Prop} {s : Shared} {ax : Addr} {lo : Obj} {vs : List Value} {n : Nat} {m₀ : Str → Option Value} {REST : Led} {x om : Addr} {O0 : Obj} {kvs0 : List (Str × Value)} (nm dflt : Str) {td : Tok} (tab : List (Int × Str)) (a b : Str)
    (hh : A.handled = none) (F : Fr h₀ env.locals s.heap m₀) (N : News h₀ env.locals s.heap ((om, O0) :: REST)) (hm : (ax, lo) ∈ REST) (hc : lo.cls = .type "tuple") (hd : lo.data = .seq vs.toArray n) (H : PutH w REST x om O0 kvs0 nm dflt td tab) (T : TabIn REST tab vs)
    (turn : ∀ rest I i t c k u1 u2 u nx h tk o, PutH w rest x om O0 kvs0 nm dflt td tab → tab[i]? = some (c, k) → (t, tupO c u1 k u2) ∈ nx → GS w om kvs0 O0 rest nm dflt td tab i nx → (∀ p ∈ nx, p.1 ≠ I) → Fr h₀ env.locals h (FM a b u m₀) → News h₀ env.locals h ((I, o) :: nx) →
      wpAny (model prog w) A (assign target env (.ref t)) (fun _ s₂ => wpAny (model prog w) A (execs body env) (UnrPostW h₀ env.locals { s with heap := h, toks := tk } [(I, o)] (fun m' n' => ∃ u, m' = FM a b u m₀ ∧ GS w om kvs0 O0 rest nm dflt td tab (i + 1) n') Q) E s₂) E { s with heap := h, toks := tk })
    (done : ∀ u nx h tk, GS w om kvs0 O0 REST nm dflt td tab vs.length nx → Fr h₀ env.locals h (FM a b u m₀) → News h₀ env.locals h nx → Q .next { s with heap := h, toks := tk }) :
    wpAny (model prog w) A (pyIter (.ref ax)) (fun it s₂ => TurnsAt prog w A h₀ env target body Q E it s₂) E s := by
  refine iter_tupJ (fun i m nx => ∃ u, m = FM a b u m₀ ∧ GS w om kvs0 O0 REST nm dflt td tab i nx) hh F N (List.mem_cons_of_mem _ hm) hc hd (fun i m nx hJ => ?_) ⟨m₀, fm_start a b m₀, rfl⟩ ?_ ?_
  · obtain ⟨_, _, G⟩ := hJ
    exact G.mem _ hm
  · rintro I i v m nx h tk o hv ⟨u, em, G⟩ hI F' N'
    subst em
    obtain ⟨t, c, k, u1, u2, ev, mt, hi⟩ := T.at hv
    subst ev
    exact turn REST I i t c k u1 u2 u nx h tk o H hi (G.mem _ mt) G hI F' N'
  · rintro m nx h tk ⟨u, em, G⟩ F' N'
    subst em
    exact done u nx h tk G F' N'
theorem MapIn.mk {news : Led} {r dr ls lv : Addr} {g1 g2 g3 : Int} {j1 j2 j3 : Tok} {D : Value} {vS vV : List Value} {nS nV : Nat} {S : List Int} {P : List Value → Prop} (h2 : (r, instObj 137 dr) ∈ news) (h1 : (dr, rmDict g1 g2 g3 j1 j2 j3 D ls lv) ∈ news) (h3 : (ls, listOf (List.toArray vS) nS) ∈ news) (h4 : (lv, listOf (List.toArray vV) nV) ∈ news) (h5 : IntsAre vS S) (h6 : P vV) : MapIn news r S P :=
  ⟨dr, g1, g2, g3, j1, j2, j3, D, ls, lv, vS, vV, nS, nV, h2, h1, h3, h4, h5, h6⟩
def tabG : List (Int × Str) := [(127462, Str.ofString "Regional_Indicator"), (8205, Str.ofString "ZWJ"), (768, Str.ofString "Extend"), (2381, Str.ofString "Extend"), (2364, Str.ofString "Extend"), (13, Str.ofString "CR"), (10, Str.ofString "LF"), (2307, Str.ofString "SpacingMark")]
def tabI : List (Int × Str) := [(2325, Str.ofString "Consonant"), (2381, Str.ofString "Linker"), (2364, Str.ofString "Extend"), (8205, Str.ofString "Extend"), (768, Str.ofString "Extend")]
theorem okG : okT (Str.ofString "Other") tabG = true := by decide +kernel
theorem okI : okT (Str.ofString "None") tabI = true := by decide +kernel
theorem svG : SV (Str.ofString "Other") tabG 8 = (gS, gV) := by decide +kernel
theorem svI : SV (Str.ofString "None") tabI 5 = (iS, iV) := by decide +kernel
def AllNeq (d : Nat) : List (Addr × Obj) → Prop
  | [] => True
  | p :: r => @Ne Nat p.1 d ∧ AllNeq d r
theorem allNeq_of {d : Addr} : ∀ {l : List (Addr × Obj)}, (∀ p ∈ l, p.1 ≠ d) → AllNeq d l
  | [], _ => trivial
  | p :: _, h => ⟨h p (.head _), allNeq_of fun q hq => h q (.tail _ hq)⟩
theorem news_cutZ {h₀ h : Heap} {L : Addr} {l : Led} (i j : Nat) (N : News h₀ L h l) : News h₀ L h (l.take i ++ l.drop j) := fun p hp => (List.mem_append.mp hp).elim (fun h => N p (List.mem_of_mem_take h)) fun h => N p (List.mem_of_mem_drop h)
theorem uendJ {h₀ : Heap} {L I : Addr} {o : Obj} {rest : (Str → Option Value) → Led → Prop} {s₁ : Shared} {h' : Heap} {tk : Nat} {m' : Str → Option Value} {news' : Led} (F : Fr h₀ L h' m') (N : News h₀ L h' ((I, o) :: news')) (off : ∀ p ∈ news', p.1 ≠ I) (r : rest m' news') : UnrEndW h₀ L s₁ [(I, o)] rest { s₁ with heap := h', toks := tk } :=
  ⟨h', tk, m', news', rfl, F, N, fun p hp q hq => by rw [List.mem_singleton.mp hq]; exact off p hp, r⟩
theorem DataIn.mk {w : World} {news : Led} {x dx od om op ow r1 r2 r3 : Addr} {h1 h2 h3 h4 : Int} {k1 k2 k3 k4 : Tok} {O : Obj} {kvs : List (Str × Value)} (m1 : (x, instObj 186 dx) ∈ news) (m2 : (dx, dtDict h1 h2 h3 h4 k1 k2 k3 k4 od om op ow) ∈ news) (m3 : (om, O) ∈ news) (m4 : O.IsDictOf (strKind PySem.Challenge.rw_on0368_01.row.prog w) kvs) (m5 : (om == sysModules) = false)
    (m6 : valueAt kvs (Str.ofString "gcb") = some (.ref r1)) (m7 : valueAt kvs (Str.ofString "ep") = some (.ref r2)) (m8 : valueAt kvs (Str.ofString "incb") = some (.ref r3)) (a1 : MapIn news r1 gS (StrsAre · gV)) (a2 : MapIn news r2 eS (· = eV.map Value.bool)) (a3 : MapIn news r3 iS (StrsAre · iV)) : DataIn w news x :=
  ⟨dx, h1, h2, h3, h4, k1, k2, k3, k4, od, om, op, ow, O, kvs, r1, r2, r3, m1, m2, m3, m4, m5, m6, m7, m8, a1, a2, a3⟩
end
section
local macro_rules | `(tactic| k_ne) => `(tactic| first | assumption | exact fun e => (by assumption : _ ≠ _) e.symm)
local macro_rules | `(tactic| walk_at "exec For Tuple Tuple cons nil") => `(tactic| (k_here; refine tok_any (fun tk9 => ?_); (rename Fr _ _ _ _ => lF'); k_dflt (refine' For_turns ?kF ?_; (case kF => exact lF'); k_whole)))
theorem walk_off_CQ : True := by
  w_top off
  trivial
section
set_option maxHeartbeats 4000000
theorem law_data (w : World) (loose : List Str) (mean : ExcName → Option Value) (mg mb : Str → Option Value) :
    GivesN w loose mean mg mb 222 40 [] (fun r tl => ∃ x, r = .ref x ∧ DataIn w tl x) := by
  unfold GivesN
  k_fill
  intro dp un gd cn cs a ccd cl outer A₀ base h₀ L m s Q E B F X T hk hd hu hret
  have N : News h₀ L s.heap [] := News.nil
  refine wpAny_call ?_
  have cE0 := InElt.start s.heap
  k_with_none
  k_with "call ref" => (first | (refine' GivesN.use (data_defaults _ _ _ _ _) ?k1 ?k2 ?k3 ?k4 ?k5 ?kK ?kd ?ku ?_; (case k2 => k_asm); (case k4 => k_asm); (case k1 => k_asm); (case k3 => k_asm); (case k5 => k_asm); (case kK => first | exact rfl | assumption); (case kd => ktr_room); (case ku => first | (have hcL9 := cLine_is; rw [units_under_make]; (simp only [units_in1, units_deeper]); (try dsimp only [ktrTop]); omega) | ktr_units); intro r9 tl9 h9 tk9 R9 hf9 F9 N9 E9; clear E9; obtain ⟨dd, od9, kd9, er9, et9, hD9, h39, lo9⟩ := R9; subst er9; subst et9; obtain ⟨ta9, ha9⟩ := h39.a; obtain ⟨tb9, hb9⟩ := h39.b; have hc9 := h39.c; have hf9 := allNeq_of (hf9 _ (List.mem_singleton.mpr rfl)); (try simp only [AllNeq, and_true] at hf9); (try simp only [List.cons_append, List.nil_append] at N9); (try dsimp only); (try k_fold)) | (refine' Gives.use (put_gsH _ _ _ _ _ _ _ _ _ _ _ _ _ _ H9 _ _ G9 _ _ hI9 _ _ hi9 _ _ _ _) ?k1 ?k2 ?k3 ?k4 ?k5 ?kK ?kd ?ku ?_; (case k2 => k_asm); (case k4 => k_asm); (case k1 => k_asm); (case k3 => k_asm); (case k5 => k_asm); (case kK => first | exact rfl | assumption); (case kd => ktr_room); (case ku => ktr_units); intro r9 n9 h9 tk9 R9 F9 N9; obtain ⟨er9, nx8, en9, G8, hI8⟩ := R9; subst er9; subst en9; (try dsimp only); (try k_fold)) | (have q9 := fo9; clear q9; refine' Gives.use (data_put_newG _ _ _ _ _ _ _ _ _ _ _ _ _ _ _ _ _ _ _ _ _ _ _ _ _ _ _ _ 128512 (.bool false) (.bool true) ?hx ?hdx ?hod ?hOD ?hlod ?hdv ?hO ?hmo ?hv ?hkl (by decide) (by decide) (fun n => like_neB _ _ _ _ _ n) ?hne) ?k1 ?k2 ?k3 ?k4 ?k5 ?kK ?kd ?ku ?_; (case k2 => k_asm); (case k4 => k_asm); (case hx => kcf_m); (case hdx => kcf_m); (case hod => kcf_m); (case hOD => exact hD9); (case hlod => exact lo9); (case hdv => exact hc9); (case hO => exact hO9); (case hmo => assumption); (case hv => (rw [valueAt_put, if_neg (by decide)]; rfl)); (case hkl => exact Nat.le_trans (stored_length_le _ _ _) (by decide)); (case hne => k_all); (case k1 => k_asm); (case k3 => k_asm); (case k5 => k_asm); (case kK => first | exact rfl | assumption); (case kd => ktr_room); (case ku => ktr_units); intro r9 n9 h9 tk9 R9 F9 N9; obtain ⟨er9, rr8, d8, ls8, lv8, h18, h28, h38, k18, k28, k38, vS8, vV8, O8, en9, hO8, iS8, iV8, fd8, fr8, fs8, fv8, n18, n28, n38⟩ := R9; subst er9; subst en9; rw [ep_I] at iS8; rw [ep_V] at iV8; have fo8 := fd8 _ (List.mem_cons_self ..); have fo81 := fr8 _ (List.mem_cons_self ..); have fo82 := fs8 _ (List.mem_cons_self ..); have fo83 := fv8 _ (List.mem_cons_self ..); (try dsimp only); (try k_fold)))
  k_with "UnrEndW" => (k_here; (rename Fr _ _ _ _ => kF9); (rename News _ _ _ _ => kN9); exact uendJ kF9 kN9 hI8 ⟨_, fm_step, G8⟩)
  k_with "pyIter ref" => (k_here; (with_reducible show wpAny _ _ (pyIter (Value.ref _)) (fun it s₂ => TurnsAt _ _ _ _ _ _ _ _ _ it s₂) _ _); (rename Fr _ _ _ _ => lF'); (rename News _ _ _ _ => lN'); replace lN' := news_front 10 lN'; (simp only [List.take_succ_cons, List.take_zero, List.drop_succ_cons, List.drop_zero, List.cons_append, List.nil_append] at lN'); (with_unfolding_all refine' loop_put (Str.ofString "incb") (Str.ofString "None") tabI (Str.ofString "code") (Str.ofString "kind") rfl lF' lN' ?hm ?hc ?hd ?H ?T ?_ ?_); (case hm => kcf_m); (case hc => rfl); (case hd => rfl); (case H => refine' ⟨⟨_, _, _, _, _, _, _, _, _, _, _, _, _, _, ?x1, ?x2, ?x3, hD9, lo9, hb9⟩, hO8, ?x5, ?x7, ?x8, ?x6, okI⟩; (case x1 => kcf_m); (case x2 => kcf_m); (case x3 => kcf_m); (case x5 => assumption); (case x7 => (rw [valueAt_put, if_neg (by decide), valueAt_put, if_neg (by decide)]; rfl)); (case x8 => exact Nat.le_trans (stored_length_le _ _ _) (Nat.succ_le_succ (Nat.le_trans (stored_length_le _ _ _) (by decide)))); (case x6 => k_all)); (case T => (repeat (first | exact True.intro | refine And.intro ⟨_, _, _, rfl, by kcf_m⟩ ?_))); all_goals (first | (intro u9 nx9 h tk G9 F' N'; (try dsimp only [FM] at F'); obtain ⟨rr7, d7, ls7, lv7, h17, h27, h37, k17, k27, k37, vS7, vV7, O7, en9, hO7, iS9, iV9, fd7, n17, n27, n37, n47, n57, n67⟩ : GS _ _ _ _ _ _ _ _ _ (4 + 1) nx9 := G9; subst en9; rw [show SV _ tabI (4 + 1) = _ from svI] at iS9 iV9; skip; (try k_fold)) | (intro rest9 I9 i9 t9 c9 k9 u19 u29 u9 nx9 h tk o9 H9 hi9 ht9 G9 hI9 F' N'; obtain ⟨dx8, od8, op8, ow8, z1, z2, z3, z4, y1, y2, y3, y4, OD8, dk8, hx8, hdx8, _⟩ := H9.ex; replace hx8 := G9.mem _ hx8; replace hdx8 := G9.mem _ hdx8; (try dsimp only [FM] at F'); (try k_fold))))
  k_with "pyIter ref" => (k_here; (with_reducible show wpAny _ _ (pyIter (Value.ref _)) (fun it s₂ => TurnsAt _ _ _ _ _ _ _ _ _ it s₂) _ _); (rename Fr _ _ _ _ => lF'); (rename News _ _ _ _ => lN'); replace lN' := news_front 11 lN'; (simp only [List.take_succ_cons, List.take_zero, List.drop_succ_cons, List.drop_zero, List.cons_append, List.nil_append] at lN'); (with_unfolding_all refine' loop_put (Str.ofString "gcb") (Str.ofString "Other") tabG (Str.ofString "code") (Str.ofString "kind") rfl lF' lN' ?hm ?hc ?hd ?H ?T ?_ ?_); (case hm => kcf_m); (case hc => rfl); (case hd => rfl); (case H => refine' ⟨⟨_, _, _, _, _, _, _, _, _, _, _, _, _, _, ?x1, ?x2, ?x3, hD9, lo9, ha9⟩, ?x4, ?x5, ?xa, ?xb, ?x6, okG⟩; (case x1 => kcf_m); (case x2 => kcf_m); (case x3 => kcf_m); (case x4 => assumption); (case xa => rfl); (case xb => decide); (case x5 => assumption); (case x6 => k_all)); (case T => (repeat (first | exact True.intro | refine And.intro ⟨_, _, _, rfl, by kcf_m⟩ ?_))); all_goals (first | (intro u9 nx9 h tk G9 F' N'; (try dsimp only [FM] at F'); obtain ⟨rr9, d9, ls9, lv9, h19, h29, h39, k19, k29, k39, vS9, vV9, O9, en9, hO9, iS9, iV9, fd9, n19, n29, n39, n49, n59, n69⟩ : GS _ _ _ _ _ _ _ _ _ (7 + 1) nx9 := G9; subst en9; rw [show SV _ tabG (7 + 1) = _ from svG] at iS9 iV9; have fo9 := fd9 _ (List.mem_cons_self ..); replace N' := news_cutZ 5 14 (news_front 4 N'); (simp only [List.take_succ_cons, List.take_zero, List.drop_succ_cons, List.drop_zero, List.cons_append, List.nil_append] at N'); (try k_fold)) | (intro rest9 I9 i9 t9 c9 k9 u19 u29 u9 nx9 h tk o9 H9 hi9 ht9 G9 hI9 F' N'; obtain ⟨dx8, od8, op8, ow8, z1, z2, z3, z4, y1, y2, y3, y4, OD8, dk8, hx8, hdx8, _⟩ := H9.ex; replace hx8 := G9.mem _ hx8; replace hdx8 := G9.mem _ hdx8; (try dsimp only [FM] at F'); (try k_fold))))
  k_dflt k_enter
  k_steps
  all_goals ((rename News _ _ _ _ => kN9); refine' hret _ _ _ _ ⟨_, rfl, ?D⟩ (fresh_of ?gg ?nn) ?zF kN9 ?zE)
  case gg => assumption
  case nn => assumption
  case zF => assumption
  case zE => assumption
  case D =>
    refine' DataIn.mk ?m1 ?m2 ?m3 ?m4 ?m5 ?m6 ?m7 ?m8 ?a1 ?a2 ?a3
    case m1 => kcf_m
    case m2 => kcf_m
    case m3 => kcf_m
    case m4 => exact hO7
    case m5 => assumption
    case m6 => rw [valueAt_put, if_neg (by decide), valueAt_put, if_neg (by decide), valueAt_put, if_pos rfl]
    case m7 => rw [valueAt_put, if_neg (by decide), valueAt_put, if_pos rfl]
    case m8 => rw [valueAt_put, if_pos rfl]
    case a1 => (refine' MapIn.mk ?q1 ?q2 ?q3 ?q4 ?q5 ?q6; (case q1 => kcf_m); (case q2 => kcf_m); (case q3 => kcf_m); (case q4 => kcf_m); (case q5 => exact (by assumption : IntsAre vS9 (gS, gV).1)); (case q6 => exact (by assumption : StrsAre vV9 (gS, gV).2)))
    case a2 => (refine' MapIn.mk ?q1 ?q2 ?q3 ?q4 ?q5 ?q6; (case q1 => kcf_m); (case q2 => kcf_m); (case q3 => kcf_m); (case q4 => kcf_m); (case q5 => exact iS8); (case q6 => exact iV8))
    case a3 => (refine' MapIn.mk ?q1 ?q2 ?q3 ?q4 ?q5 ?q6; (case q1 => kcf_m); (case q2 => kcf_m); (case q3 => kcf_m); (case q4 => kcf_m); (case q5 => exact (by assumption : IntsAre vS7 (iS, iV).1)); (case q6 => exact (by assumption : StrsAre vV7 (iS, iV).2)))
end
end
end
section
local macro_rules | `(tactic| k_all) => `(tactic| assumption)
section
local macro_rules | `(tactic| walk1) => `(tactic| ((with_reducible show wpAny _ _ (call (Value.builtin "list.pop") _) _ _ _); (try dsimp only); k_dflt (k_extra "my pop")))
theorem walk_off_CN : True := by
  w_top off
  trivial
section
set_option maxHeartbeats 1000000
theorem ints_last : ∀ {vs : List Value} {ns : List Int}, IntsAre vs ns → ¬ ns = [] → ∃ p x t ns', kl_last vs = some (p, Value.int x t) ∧ IntsAre p ns' ∧ ns'.length + 1 = ns.length := by
  intro vs ns h
  induction h with
  | nil => intro h; exact absurd rfl h
  | cons n t r ih =>
    intro _
    cases r with
    | nil => exact ⟨[], n, t, [], rfl, .nil, rfl⟩
    | cons n2 t2 r2 =>
      obtain ⟨p, x, u, ns', e, i, l⟩ := ih (by simp)
      exact ⟨.int n t :: p, x, u, n :: ns', by simp only [kl_last] at e ⊢; rw [e], .cons _ _ i, by simp only [List.length_cons] at l ⊢; omega⟩

theorem kfm (a : Int) {b : Int} (h : 0 < b) : 0 ≤ a.fmod b ∧ a.fmod b < b := ⟨Int.fmod_nonneg_of_pos a h, Int.fmod_lt_of_pos a h⟩
theorem law_draw (w : World) (loose : List Str) (mean : ExcName → Option Value) (mg mb : Str → Option Value) (rest : Led) (dk lc : Addr) (O : Obj) (kvs : List (Str × Value)) (vC : List Value) (nC : Nat) (cells : List Int) (mx tn b : Int) (tm9 tt9 tb : Tok)
    (hO : O.IsDictOf (strKind PySem.Challenge.rw_on0368_01.row.prog w) kvs) (hlo : (dk == sysModules) = false) (hk1 : valueAt kvs (Str.ofString "cells") = some (.ref lc)) (hk2 : valueAt kvs (Str.ofString "mixed") = some (.int mx tm9)) (hk3 : valueAt kvs (Str.ofString "turn") = some (.int tn tt9)) (hkl : kvs.length ≤ 100)
    (hiC : IntsAre vC cells) (hcl : cells.length < 1000) (hne1 : @Ne Nat lc dk) (hr1 : ∀ p ∈ rest, p.1 ≠ dk) (hr2 : ∀ p ∈ rest, p.1 ≠ lc)
    (hm0 : 0 ≤ mx) (hm1 : mx < 2147483648) (ht0 : 0 ≤ tn) (ht1 : tn < 1000) (hb0 : 0 < b) (hb1 : b < 1000) :
    Gives w loose mean mg mb 202 12 ((dk, O) :: (lc, listOf vC.toArray nC) :: rest) [.ref dk, .int b tb]
      (fun r news' => ∃ v t O' kvs' vC' nC' cells' tt', r = .int v t ∧ 0 ≤ v ∧ v < b ∧ news' = (dk, O') :: (lc, listOf (List.toArray vC') nC') :: rest ∧ O'.IsDictOf (strKind PySem.Challenge.rw_on0368_01.row.prog w) kvs'
        ∧ valueAt kvs' (Str.ofString "cells") = some (.ref lc) ∧ valueAt kvs' (Str.ofString "mixed") = some (.int mx tm9) ∧ valueAt kvs' (Str.ofString "turn") = some (.int (tn + 1) tt') ∧ kvs'.length ≤ kvs.length + 1 ∧ IntsAre vC' cells' ∧ cells'.length ≤ cells.length) := by
  unfold Gives
  k_fill
  intro dp un gd cn cs a ccd cl outer A₀ base h₀ L m s Q E B F X N T hk hd hu hret
  refine wpAny_call ?_
  have cE0 := InElt.start s.heap
  have q1 : ∀ x t, valueAt (stored kvs (Str.ofString "turn") (.int x t)) (Str.ofString "cells") = some (.ref lc) := fun x t => by rw [valueAt_put, if_neg (by decide)]; exact hk1
  have q2 : ∀ x t, valueAt (stored kvs (Str.ofString "turn") (.int x t)) (Str.ofString "mixed") = some (.int mx tm9) := fun x t => by rw [valueAt_put, if_neg (by decide)]; exact hk2
  have q3 : ∀ x t, valueAt (stored kvs (Str.ofString "turn") (.int x t)) (Str.ofString "turn") = some (.int x t) := fun x t => by rw [valueAt_put, if_pos rfl]
  have q4 : ∀ x, (stored kvs (Str.ofString "turn") x).length ≤ kvs.length + 1 := fun x => stored_length_le _ _ _
  k_with_none
  k_with "my key" => (refine' key_item ?N ?hp ?hd ?hl ?_; (case N => k_asm); (case hp => k_mem); (case hd => assumption); (case hl => first | exact hk1 | exact hk2 | exact hk3 | exact q1 _ _ | exact q2 _ _ | exact q3 _ _))
  k_with "my pop" => (obtain ⟨p9, x9, u9, ns9, e9, i9, y9⟩ := ints_last hiC (of_decide_eq_false (by assumption)); refine' kl_pop ?F ?N e9 ?U ?z ?_; (case F => k_asm); (case N => k_asm); (case U => k_upd); (case z => (rw [sizeLine_eq]; have := hiC.length; show vC.length ≤ _; omega)); intro h' F' N'; (try dsimp only [List.nil_append, List.cons_append] at N'))
  k_with "setItem ref str" => (k_here; (rename News _ _ _ _ => lN9); (refine' kda_set (knd := strKind _ _) ?F lN9 ?U ?d (strKind_is _ _ _ _) ?z ?_); (case F => k_asm); (case U => k_updF); (case d => assumption); (case z => (rw [sizeLine_eq]; omega)); clear lN9; intro h' o' F' N' hd'; (try dsimp only at N'))
  k_dflt k_enter
  clear cE0
  k_steps
  · (rename News _ _ _ _ => kN9; refine' hret _ _ _ _ ⟨_, _, _, _, _, _, _, _, rfl, (kfm _ hb0).1, (kfm _ hb0).2, rfl, hd', q1 _ _, q2 _ _, q3 _ _, q4 _, hiC, Nat.le_refl _⟩ ?hF (cb_drop kN9 ?ks); (case hF => assumption); (case ks => exact List.forall_mem_cons.mpr ⟨by k_memK, List.forall_mem_cons.mpr ⟨by k_memK, fun p hp => by repeat (first | exact hp | refine List.mem_cons_of_mem _ ?_)⟩⟩))
  · (rename News _ _ _ _ => kN9; (simp only [List.push_toArray] at kN9); refine' hret _ _ _ _ ⟨_, _, _, _, _, _, _, _, rfl, (kfm _ hb0).1, (kfm _ hb0).2, rfl, hd', q1 _ _, q2 _ _, q3 _ _, q4 _, IntsAre.append i9 (IntsAre.cons _ _ IntsAre.nil), ?hl⟩ ?hF (cb_drop kN9 ?ks); (case hF => assumption); (case hl => (rw [List.length_append]; show _ + 1 ≤ _; omega)); (case ks => exact List.forall_mem_cons.mpr ⟨by k_memK, List.forall_mem_cons.mpr ⟨by k_memK, fun p hp => by repeat (first | exact hp | refine List.mem_cons_of_mem _ ?_)⟩⟩))
  · (rename News _ _ _ _ => kN9; refine' hret _ _ _ _ ⟨_, _, _, _, _, _, _, _, rfl, (kfm _ hb0).1, (kfm _ hb0).2, rfl, hd', q1 _ _, q2 _ _, q3 _ _, q4 _, i9, ?hl⟩ ?hF (cb_drop kN9 ?ks); (case hF => assumption); (case hl => omega); (case ks => exact List.forall_mem_cons.mpr ⟨by k_memK, List.forall_mem_cons.mpr ⟨by k_memK, fun p hp => by repeat (first | exact hp | refine List.mem_cons_of_mem _ ?_)⟩⟩))
end
end
theorem walk_off_CO : True := by
  w_top off
  trivial
section

theorem UpdF.mem {d : Addr} {o : Obj} {l : Led} {g : Obj → Led} (U : UpdF d o l g) : (d, o) ∈ l ∧ (∀ o', ∀ p ∈ g o', p = (d, o') ∨ (p ∈ l ∧ p.1 ≠ d)) ∧ ∀ o', ∀ p ∈ l, p.1 ≠ d → p ∈ g o' := by
  obtain ⟨pre, post, e, eg, n1, n2⟩ := U.split
  subst e
  refine ⟨List.mem_append_right _ (List.mem_cons_self ..), fun o' p hp => ?_, fun o' p hp hn => ?_⟩
  · rw [eg] at hp
    rcases List.mem_append.mp hp with hp | hp
    · exact Or.inr ⟨List.mem_append_left _ hp, n1 p hp⟩
    · rcases List.mem_cons.mp hp with e | hp
      · exact Or.inl e
      · exact Or.inr ⟨List.mem_append_right _ (List.mem_cons_of_mem _ hp), n2 p hp⟩
  · rw [eg]
    rcases List.mem_append.mp hp with hp | hp
    · exact List.mem_append_left _ hp
    · rcases List.mem_cons.mp hp with e | hp
      · exact absurd (e ▸ rfl) hn
      · exact List.mem_append_right _ (List.mem_cons_of_mem _ hp)
theorem law_drawU (w : World) (loose : List Str) (mean : ExcName → Option Value) (mg mb : Str → Option Value) (news : Led) (g : Obj → Led) (g2 : Obj → Obj → Led) (dk lc : Addr) (O : Obj) (kvs : List (Str × Value)) (vC : List Value) (nC : Nat) (cells : List Int) (mx tn b : Int) (tm9 tt9 tb : Tok)
    (U : UpdF dk O news g) (U2 : ∀ O', UpdF lc (listOf vC.toArray nC) (g O') (g2 O'))
    (hO : O.IsDictOf (strKind PySem.Challenge.rw_on0368_01.row.prog w) kvs) (hlo : (dk == sysModules) = false) (hk1 : valueAt kvs (Str.ofString "cells") = some (.ref lc)) (hk2 : valueAt kvs (Str.ofString "mixed") = some (.int mx tm9)) (hk3 : valueAt kvs (Str.ofString "turn") = some (.int tn tt9)) (hkl : kvs.length ≤ 100)
    (hiC : IntsAre vC cells) (hcl : cells.length < 1000) (hne1 : lc ≠ dk)
    (hm0 : 0 ≤ mx) (hm1 : mx < 2147483648) (ht0 : 0 ≤ tn) (ht1 : tn < 1000) (hb0 : 0 < b) (hb1 : b < 1000) :
    Gives w loose mean mg mb 202 12 news [.ref dk, .int b tb]
      (fun r news' => ∃ v t O' kvs' vC' nC' cells' tt', r = .int v t ∧ 0 ≤ v ∧ v < b ∧ news' = g2 O' (listOf (List.toArray vC') nC') ∧ O'.IsDictOf (strKind PySem.Challenge.rw_on0368_01.row.prog w) kvs'
        ∧ valueAt kvs' (Str.ofString "cells") = some (.ref lc) ∧ valueAt kvs' (Str.ofString "mixed") = some (.int mx tm9) ∧ valueAt kvs' (Str.ofString "turn") = some (.int (tn + 1) tt') ∧ kvs'.length ≤ kvs.length + 1 ∧ IntsAre vC' cells' ∧ cells'.length ≤ cells.length) := by
  obtain ⟨m1, a1, b1⟩ := UpdF.mem U
  have hlc : (lc, listOf vC.toArray nC) ∈ news := by
    have h := (a1 O _ (UpdF.mem (U2 O)).1)
    rcases h with h | h
    · exact absurd (congrArg Prod.fst h) hne1
    · exact h.1
  have hf : ∀ p, p ∈ news.filter (fun p => decide (p.1 ≠ dk ∧ p.1 ≠ lc)) ↔ p ∈ news ∧ p.1 ≠ dk ∧ p.1 ≠ lc := fun p => by rw [List.mem_filter]; simp
  refine (law_draw w loose mean mg mb (news.filter fun p => decide (p.1 ≠ dk ∧ p.1 ≠ lc)) dk lc O kvs vC nC cells mx tn b tm9 tt9 tb hO hlo hk1 hk2 hk3 hkl hiC hcl hne1 (fun p hp => ((hf p).mp hp).2.1) (fun p hp => ((hf p).mp hp).2.2) hm0 hm1 ht0 ht1 hb0 hb1).perm ?_ ?_
  · intro p hp
    rcases List.mem_cons.mp hp with e | hp
    · exact e ▸ m1
    · rcases List.mem_cons.mp hp with e | hp
      · exact e ▸ hlc
      · exact ((hf p).mp hp).1
  · rintro r n' ⟨v, t, O', kvs', vC', nC', cells', tt', e1, e2, e3, e4, e5⟩
    subst e4
    refine ⟨_, ⟨v, t, O', kvs', vC', nC', cells', tt', e1, e2, e3, rfl, e5⟩, fun p hp => ?_⟩
    obtain ⟨m2, a2, b2⟩ := UpdF.mem (U2 O')
    rcases a2 _ p hp with e | ⟨h, hn⟩
    · exact e ▸ List.mem_cons_of_mem _ (List.mem_cons_self ..)
    · rcases a1 _ p h with e | ⟨h, hn2⟩
      · exact e ▸ List.mem_cons_self ..
      · exact List.mem_cons_of_mem _ (List.mem_cons_of_mem _ ((hf p).mpr ⟨h, hn2, hn⟩))
/-- the two readings as one function -/
theorem PicR.det {T : List Int} {h v : Int} (k : PicR T h v) : ∀ {v' : Int}, PicR T h v' → v = v' := by
  induction k with
  | stop c => intro v' k'; cases k' with
    | stop _ => rfl
    | step c' _ => exact absurd c' c
  | step c _ ih => intro v' k'; cases k' with
    | stop c' => exact absurd c c'
    | step _ k' => exact ih k'
theorem PicR.tot {T : List Int} : ∀ (n : Nat) (h : Int), 0 ≤ h → (T.length - h).toNat ≤ n → ∃ v, PicR T h v
  | 0, h, h0, hn => ⟨h, .stop fun c => by have := c.1; have := runI_ge (inK [Str.ofString "Extend"]) T h0; omega⟩
  | n + 1, h, h0, hn => by
    by_cases c : picC T h
    · have h1 := c.1
      have h2 := runI_ge (inK [Str.ofString "Extend"]) T h0
      obtain ⟨v, hv⟩ := PicR.tot (T := T) n (runI (inK [Str.ofString "Extend"]) T h + 2) (by omega) (by omega)
      exact ⟨v, .step c hv⟩
    · exact ⟨h, .stop c⟩
theorem ConR.det {T : List Int} {h v : Int} (k : ConR T h v) : ∀ {v' : Int}, ConR T h v' → v = v' := by
  induction k with
  | stop c => intro v' k'; cases k' with
    | stop _ => rfl
    | step c' _ => exact absurd c' c
  | step c _ ih => intro v' k'; cases k' with
    | stop c' => exact absurd c c'
    | step _ k' => exact ih k'
theorem ConR.tot {T : List Int} : ∀ (n : Nat) (h : Int), 0 ≤ h → (T.length - h).toNat ≤ n → ∃ v, ConR T h v
  | 0, h, h0, hn => ⟨h, .stop fun c => by have := c.2.1; have := runI_ge inJ T h0; omega⟩
  | n + 1, h, h0, hn => by
    by_cases c : conC T h
    · have h1 := c.2.1
      have h2 := runI_ge inJ T h0
      obtain ⟨v, hv⟩ := ConR.tot (T := T) n (runI inJ T h + 1) (by omega) (by omega)
      exact ⟨v, .step c hv⟩
    · exact ⟨h, .stop c⟩
theorem PicO.det {T : List Int} {p v v' : Int} (k : PicO T p v) (k' : PicO T p v') : v = v' := by
  rcases k with ⟨a, e⟩ | ⟨a, r⟩ <;> rcases k' with ⟨a', e'⟩ | ⟨a', r'⟩
  · exact e.trans e'.symm
  · rw [a] at a'; cases a'
  · rw [a] at a'; cases a'
  · exact r.det r'
theorem PicO.tot {T : List Int} {p : Int} (h0 : 0 ≤ p) : ∃ v, PicO T p v := by
  cases e : eF (T.getD p.toNat 0) with
  | false => exact ⟨p, Or.inl ⟨e, rfl⟩⟩
  | true => obtain ⟨v, hv⟩ := PicR.tot (T := T) _ (p + 1) (by omega) (Nat.le_refl _); exact ⟨v, Or.inr ⟨e, hv⟩⟩
theorem ConO.det {T : List Int} {p v v' : Int} (k : ConO T p v) (k' : ConO T p v') : v = v' := by
  rcases k with ⟨a, e⟩ | ⟨a, r⟩ <;> rcases k' with ⟨a', e'⟩ | ⟨a', r'⟩
  · exact e.trans e'.symm
  · exact absurd a' a
  · exact absurd a a'
  · exact r.det r'
theorem ConO.tot {T : List Int} {p : Int} (h0 : 0 ≤ p) : ∃ v, ConO T p v := by
  by_cases e : iF (T.getD p.toNat 0) = Str.ofString "Consonant"
  · obtain ⟨v, hv⟩ := ConR.tot (T := T) _ (p + 1) (by omega) (Nat.le_refl _); exact ⟨v, Or.inr ⟨e, hv⟩⟩
  · exact ⟨p, Or.inl ⟨e, rfl⟩⟩
theorem CoreO.det {T : List Int} {p v v' : Int} {leg : Bool} (k : CoreO T p leg v) (k' : CoreO T p leg v') : v = v' := by
  rcases k with ⟨a, e⟩ | ⟨a, b, pb, r⟩ <;> rcases k' with ⟨a', e'⟩ | ⟨a', b', pb', r'⟩
  · exact e.trans e'.symm
  · exact absurd a a'
  · exact absurd a' a
  · have eb := pb.det pb'
    subst eb
    rcases r with ⟨l, e⟩ | ⟨l, c, pc, e⟩ <;> rcases r' with ⟨l', e'⟩ | ⟨l', c', pc', e'⟩
    · exact e.trans e'.symm
    · rw [l] at l'; cases l'
    · rw [l] at l'; cases l'
    · rw [pc.det pc'] at e
      exact e.trans e'.symm
theorem CoreO.tot (T : List Int) {p : Int} (leg : Bool) (h0 : 0 ≤ p) : ∃ v, CoreO T p leg v := by
  by_cases a : kF (T.getD p.toNat 0) = Str.ofString "Regional_Indicator"
  · exact ⟨_, Or.inl ⟨a, rfl⟩⟩
  · obtain ⟨b, pb⟩ := PicO.tot (T := T) h0
    cases leg with
    | true => exact ⟨_, Or.inr ⟨a, b, pb, Or.inl ⟨rfl, rfl⟩⟩⟩
    | false => obtain ⟨c, pc⟩ := ConO.tot (T := T) h0; exact ⟨_, Or.inr ⟨a, b, pb, Or.inr ⟨rfl, c, pc, rfl⟩⟩⟩
open Classical in
noncomputable def coreV (T : List Int) (leg : Bool) (p : Int) : Int := if h : 0 ≤ p then Classical.choose (CoreO.tot T leg h) else 0
theorem coreV_is {T : List Int} {leg : Bool} {p v : Int} (h0 : 0 ≤ p) (k : CoreO T p leg v) : v = coreV T leg p := by
  unfold coreV; rw [dif_pos h0]; exact k.det (Classical.choose_spec (CoreO.tot T leg h0))
theorem coreV_law {T : List Int} {leg : Bool} {p v : Int} (hT : ∀ c ∈ T, c ∈ menu) (h0 : 0 ≤ p) (h1 : p < T.length) (k : CoreL (T.map sortF) p leg v) : v = coreV T leg p := by
  obtain ⟨u, hu⟩ := CoreO.tot T leg h0
  rw [← core_eq hT h0 h1 hu k]
  exact coreV_is h0 hu
theorem coreF (w : World) (loose : List Str) (mean : ExcName → Option Value) (mg mb : Str → Option Value) (news : Led) (tx x : Addr) (p : Int) (leg : Bool) (t1 : Tok) (vT : List Value) (nT : Nat) (tc : List Int) (H : DataIn w news x)
    (hm : (tx, listOf vT.toArray nT) ∈ news) (hi : IntsAre vT tc) (hlen : tc.length < 1000) (hT : ∀ c ∈ tc, 0 ≤ c ∧ c < 2000000) (h0 : 0 ≤ p) (h1 : p < tc.length) :
    GivesP w loose mean mg mb 78 8 news [.ref tx, .int p t1, .ref x, .bool leg] (fun r => ∃ t, r = .int (coreV tc leg p) t) :=
  (cluster_core_end w loose mean mg mb news tx x p leg t1 vT nT tc H hm hi hlen hT h0 h1).mono fun r h => by
    obtain ⟨v, t, e, k⟩ := h
    exact ⟨t, e.trans (congrArg (fun z => Value.int z t) (coreV_is h0 k))⟩
theorem lawF (w : World) (loose : List Str) (mean : ExcName → Option Value) (mg mb : Str → Option Value) (news : Led) (sx : Addr) (p : Int) (leg : Bool) (t1 : Tok) (vS : List Value) (nS : Nat) (tc : List Int)
    (hm : (sx, listOf vS.toArray nS) ∈ news) (hi : StrsAre vS (tc.map sortF)) (hlen : tc.length < 1000) (hT : ∀ c ∈ tc, c ∈ menu) (h0 : 0 ≤ p) (h1 : p < tc.length) :
    GivesP w loose mean mg mb 257 14 news [.ref sx, .int p t1, .bool leg] (fun r => ∃ t, r = .int (coreV tc leg p) t) :=
  (law_core w loose mean mg mb news sx p leg t1 vS nS (tc.map sortF) hm hi (by rw [List.length_map]; exact hlen) (fun x hx => by obtain ⟨c, hc, e⟩ := List.mem_map.mp hx; exact e ▸ mk_ok c (hT c hc)) h0 (by rw [List.length_map]; exact h1)).mono fun r h => by
    obtain ⟨v, t, e, k⟩ := h
    exact ⟨t, e.trans (congrArg (fun z => Value.int z t) (coreV_law hT h0 h1 k))⟩
end
section
local macro_rules | `(tactic| news_mem) => `(tactic| first | assumption | k_extra "my mem")
theorem walk_off_CP : True := by
  w_top off
  trivial
section
set_option maxHeartbeats 1000000
theorem pick_lots (w : World) (loose : List Str) (mean : ExcName → Option Value) (mg mb : Str → Option Value) (news : Led) (g : Obj → Led) (g2 : Obj → Obj → Led) (dk lc : Addr) (O : Obj) (kvs : List (Str × Value)) (vC : List Value) (nC : Nat) (cells : List Int) (mx tn : Int) (tm9 tt9 : Tok)
    (U : UpdF dk O news g) (U2 : ∀ O', UpdF lc (listOf vC.toArray nC) (g O') (g2 O'))
    (hO : O.IsDictOf (strKind PySem.Challenge.rw_on0368_01.row.prog w) kvs) (hlo : (dk == sysModules) = false) (hk1 : valueAt kvs (Str.ofString "cells") = some (.ref lc)) (hk2 : valueAt kvs (Str.ofString "mixed") = some (.int mx tm9)) (hk3 : valueAt kvs (Str.ofString "turn") = some (.int tn tt9)) (hkl : kvs.length ≤ 100)
    (hiC : IntsAre vC cells) (hcl : cells.length < 1000) (hne1 : lc ≠ dk) (hm0 : 0 ≤ mx) (hm1 : mx < 2147483648) (ht0 : 0 ≤ tn) (ht1 : tn < 1000) :
    Gives w loose mean mg mb 209 14 news [.ref dk, .ref 215] (fun r news' => (∃ l, r = .ref l ∧ l ∈ [211, 212, 213, 214]) ∧ ∃ O' kvs' vC' nC' cells' tt', news' = g2 O' (listOf (List.toArray vC') nC') ∧ O'.IsDictOf (strKind PySem.Challenge.rw_on0368_01.row.prog w) kvs' ∧ valueAt kvs' (Str.ofString "cells") = some (.ref lc) ∧ valueAt kvs' (Str.ofString "mixed") = some (.int mx tm9) ∧ valueAt kvs' (Str.ofString "turn") = some (.int (tn + 1) tt') ∧ kvs'.length ≤ kvs.length + 1 ∧ IntsAre vC' cells' ∧ cells'.length ≤ cells.length) := by
  unfold Gives
  k_fill
  intro dp un gd cn cs a ccd cl outer A₀ base h₀ L m s Q E B F X N T hk hd hu hret
  refine wpAny_call ?_
  have cE0 := InElt.start s.heap
  k_with_none
  k_with "call ref" => (refine' Gives.use (law_drawU _ _ _ _ _ _ _ _ _ _ _ _ _ _ _ _ _ _ _ _ _  U U2 hO hlo hk1 hk2 hk3 hkl hiC hcl hne1 hm0 hm1 ht0 ht1 ?hb0 ?hb1) ?k1 ?k2 ?k3 ?k4 ?k5 ?kK ?kd ?ku ?_; (case k2 => k_asm); (case k4 => k_asm); (case hb0 => decide); (case hb1 => decide); (case k1 => k_asm); (case k3 => k_asm); (case k5 => k_asm); (case kK => first | exact rfl | assumption); (case kd => ktr_room); (case ku => ktr_units); intro r9 n9 h9 tk9 R9 F9 N9; obtain ⟨v9, t9, O9, kvs9, vC9, nC9, cells9, tt9, er9, b19, b29, en9, hO9, k19, k29, k39, l19, i19, l29⟩ := R9; subst er9; subst en9; (try dsimp only); (try k_fold))
  k_dflt k_enter
  clear cE0
  k_steps
  all_goals exact hret _ _ _ _ ⟨⟨_, rfl, by decide⟩, O9, kvs9, vC9, nC9, cells9, tt9, rfl, hO9, k19, k29, k39, l19, i19, l29⟩ (by assumption) (by assumption)
theorem pick_211 (w : World) (loose : List Str) (mean : ExcName → Option Value) (mg mb : Str → Option Value) (news : Led) (g : Obj → Led) (g2 : Obj → Obj → Led) (dk lc : Addr) (O : Obj) (kvs : List (Str × Value)) (vC : List Value) (nC : Nat) (cells : List Int) (mx tn : Int) (tm9 tt9 : Tok)
    (U : UpdF dk O news g) (U2 : ∀ O', UpdF lc (listOf vC.toArray nC) (g O') (g2 O'))
    (hO : O.IsDictOf (strKind PySem.Challenge.rw_on0368_01.row.prog w) kvs) (hlo : (dk == sysModules) = false) (hk1 : valueAt kvs (Str.ofString "cells") = some (.ref lc)) (hk2 : valueAt kvs (Str.ofString "mixed") = some (.int mx tm9)) (hk3 : valueAt kvs (Str.ofString "turn") = some (.int tn tt9)) (hkl : kvs.length ≤ 100)
    (hiC : IntsAre vC cells) (hcl : cells.length < 1000) (hne1 : lc ≠ dk) (hm0 : 0 ≤ mx) (hm1 : mx < 2147483648) (ht0 : 0 ≤ tn) (ht1 : tn < 1000) :
    Gives w loose mean mg mb 209 14 news [.ref dk, .ref 211] (fun r news' => (∃ v t, r = .int v t ∧ v ∈ menu) ∧ ∃ O' kvs' vC' nC' cells' tt', news' = g2 O' (listOf (List.toArray vC') nC') ∧ O'.IsDictOf (strKind PySem.Challenge.rw_on0368_01.row.prog w) kvs' ∧ valueAt kvs' (Str.ofString "cells") = some (.ref lc) ∧ valueAt kvs' (Str.ofString "mixed") = some (.int mx tm9) ∧ valueAt kvs' (Str.ofString "turn") = some (.int (tn + 1) tt') ∧ kvs'.length ≤ kvs.length + 1 ∧ IntsAre vC' cells' ∧ cells'.length ≤ cells.length) := by
  unfold Gives
  k_fill
  intro dp un gd cn cs a ccd cl outer A₀ base h₀ L m s Q E B F X N T hk hd hu hret
  refine wpAny_call ?_
  have cE0 := InElt.start s.heap
  k_with_none
  k_with "call ref" => (refine' Gives.use (law_drawU _ _ _ _ _ _ _ _ _ _ _ _ _ _ _ _ _ _ _ _ _  U U2 hO hlo hk1 hk2 hk3 hkl hiC hcl hne1 hm0 hm1 ht0 ht1 ?hb0 ?hb1) ?k1 ?k2 ?k3 ?k4 ?k5 ?kK ?kd ?ku ?_; (case k2 => k_asm); (case k4 => k_asm); (case hb0 => decide); (case hb1 => decide); (case k1 => k_asm); (case k3 => k_asm); (case k5 => k_asm); (case kK => first | exact rfl | assumption); (case kd => ktr_room); (case ku => ktr_units); intro r9 n9 h9 tk9 R9 F9 N9; obtain ⟨v9, t9, O9, kvs9, vC9, nC9, cells9, tt9, er9, b19, b29, en9, hO9, k19, k29, k39, l19, i19, l29⟩ := R9; subst er9; subst en9; (try dsimp only); (try k_fold))
  k_dflt k_enter
  clear cE0
  k_steps
  all_goals exact hret _ _ _ _ ⟨⟨_, _, rfl, by decide⟩, O9, kvs9, vC9, nC9, cells9, tt9, rfl, hO9, k19, k29, k39, l19, i19, l29⟩ (by assumption) (by assumption)
theorem pick_212 (w : World) (loose : List Str) (mean : ExcName → Option Value) (mg mb : Str → Option Value) (news : Led) (g : Obj → Led) (g2 : Obj → Obj → Led) (dk lc : Addr) (O : Obj) (kvs : List (Str × Value)) (vC : List Value) (nC : Nat) (cells : List Int) (mx tn : Int) (tm9 tt9 : Tok)
    (U : UpdF dk O news g) (U2 : ∀ O', UpdF lc (listOf vC.toArray nC) (g O') (g2 O'))
    (hO : O.IsDictOf (strKind PySem.Challenge.rw_on0368_01.row.prog w) kvs) (hlo : (dk == sysModules) = false) (hk1 : valueAt kvs (Str.ofString "cells") = some (.ref lc)) (hk2 : valueAt kvs (Str.ofString "mixed") = some (.int mx tm9)) (hk3 : valueAt kvs (Str.ofString "turn") = some (.int tn tt9)) (hkl : kvs.length ≤ 100)
    (hiC : IntsAre vC cells) (hcl : cells.length < 1000) (hne1 : lc ≠ dk) (hm0 : 0 ≤ mx) (hm1 : mx < 2147483648) (ht0 : 0 ≤ tn) (ht1 : tn < 1000) :
    Gives w loose mean mg mb 209 14 news [.ref dk, .ref 212] (fun r news' => (∃ v t, r = .int v t ∧ v ∈ menu) ∧ ∃ O' kvs' vC' nC' cells' tt', news' = g2 O' (listOf (List.toArray vC') nC') ∧ O'.IsDictOf (strKind PySem.Challenge.rw_on0368_01.row.prog w) kvs' ∧ valueAt kvs' (Str.ofString "cells") = some (.ref lc) ∧ valueAt kvs' (Str.ofString "mixed") = some (.int mx tm9) ∧ valueAt kvs' (Str.ofString "turn") = some (.int (tn + 1) tt') ∧ kvs'.length ≤ kvs.length + 1 ∧ IntsAre vC' cells' ∧ cells'.length ≤ cells.length) := by
  unfold Gives
  k_fill
  intro dp un gd cn cs a ccd cl outer A₀ base h₀ L m s Q E B F X N T hk hd hu hret
  refine wpAny_call ?_
  have cE0 := InElt.start s.heap
  k_with_none
  k_with "call ref" => (refine' Gives.use (law_drawU _ _ _ _ _ _ _ _ _ _ _ _ _ _ _ _ _ _ _ _ _  U U2 hO hlo hk1 hk2 hk3 hkl hiC hcl hne1 hm0 hm1 ht0 ht1 ?hb0 ?hb1) ?k1 ?k2 ?k3 ?k4 ?k5 ?kK ?kd ?ku ?_; (case k2 => k_asm); (case k4 => k_asm); (case hb0 => decide); (case hb1 => decide); (case k1 => k_asm); (case k3 => k_asm); (case k5 => k_asm); (case kK => first | exact rfl | assumption); (case kd => ktr_room); (case ku => ktr_units); intro r9 n9 h9 tk9 R9 F9 N9; obtain ⟨v9, t9, O9, kvs9, vC9, nC9, cells9, tt9, er9, b19, b29, en9, hO9, k19, k29, k39, l19, i19, l29⟩ := R9; subst er9; subst en9; (try dsimp only); (try k_fold))
  k_dflt k_enter
  clear cE0
  k_steps
  all_goals exact hret _ _ _ _ ⟨⟨_, _, rfl, by decide⟩, O9, kvs9, vC9, nC9, cells9, tt9, rfl, hO9, k19, k29, k39, l19, i19, l29⟩ (by assumption) (by assumption)
theorem pick_213 (w : World) (loose : List Str) (mean : ExcName → Option Value) (mg mb : Str → Option Value) (news : Led) (g : Obj → Led) (g2 : Obj → Obj → Led) (dk lc : Addr) (O : Obj) (kvs : List (Str × Value)) (vC : List Value) (nC : Nat) (cells : List Int) (mx tn : Int) (tm9 tt9 : Tok)
    (U : UpdF dk O news g) (U2 : ∀ O', UpdF lc (listOf vC.toArray nC) (g O') (g2 O'))
    (hO : O.IsDictOf (strKind PySem.Challenge.rw_on0368_01.row.prog w) kvs) (hlo : (dk == sysModules) = false) (hk1 : valueAt kvs (Str.ofString "cells") = some (.ref lc)) (hk2 : valueAt kvs (Str.ofString "mixed") = some (.int mx tm9)) (hk3 : valueAt kvs (Str.ofString "turn") = some (.int tn tt9)) (hkl : kvs.length ≤ 100)
    (hiC : IntsAre vC cells) (hcl : cells.length < 1000) (hne1 : lc ≠ dk) (hm0 : 0 ≤ mx) (hm1 : mx < 2147483648) (ht0 : 0 ≤ tn) (ht1 : tn < 1000) :
    Gives w loose mean mg mb 209 14 news [.ref dk, .ref 213] (fun r news' => (∃ v t, r = .int v t ∧ v ∈ menu) ∧ ∃ O' kvs' vC' nC' cells' tt', news' = g2 O' (listOf (List.toArray vC') nC') ∧ O'.IsDictOf (strKind PySem.Challenge.rw_on0368_01.row.prog w) kvs' ∧ valueAt kvs' (Str.ofString "cells") = some (.ref lc) ∧ valueAt kvs' (Str.ofString "mixed") = some (.int mx tm9) ∧ valueAt kvs' (Str.ofString "turn") = some (.int (tn + 1) tt') ∧ kvs'.length ≤ kvs.length + 1 ∧ IntsAre vC' cells' ∧ cells'.length ≤ cells.length) := by
  unfold Gives
  k_fill
  intro dp un gd cn cs a ccd cl outer A₀ base h₀ L m s Q E B F X N T hk hd hu hret
  refine wpAny_call ?_
  have cE0 := InElt.start s.heap
  k_with_none
  k_with "call ref" => (refine' Gives.use (law_drawU _ _ _ _ _ _ _ _ _ _ _ _ _ _ _ _ _ _ _ _ _  U U2 hO hlo hk1 hk2 hk3 hkl hiC hcl hne1 hm0 hm1 ht0 ht1 ?hb0 ?hb1) ?k1 ?k2 ?k3 ?k4 ?k5 ?kK ?kd ?ku ?_; (case k2 => k_asm); (case k4 => k_asm); (case hb0 => decide); (case hb1 => decide); (case k1 => k_asm); (case k3 => k_asm); (case k5 => k_asm); (case kK => first | exact rfl | assumption); (case kd => ktr_room); (case ku => ktr_units); intro r9 n9 h9 tk9 R9 F9 N9; obtain ⟨v9, t9, O9, kvs9, vC9, nC9, cells9, tt9, er9, b19, b29, en9, hO9, k19, k29, k39, l19, i19, l29⟩ := R9; subst er9; subst en9; (try dsimp only); (try k_fold))
  k_dflt k_enter
  clear cE0
  k_steps
  all_goals exact hret _ _ _ _ ⟨⟨_, _, rfl, by decide⟩, O9, kvs9, vC9, nC9, cells9, tt9, rfl, hO9, k19, k29, k39, l19, i19, l29⟩ (by assumption) (by assumption)
theorem pick_214 (w : World) (loose : List Str) (mean : ExcName → Option Value) (mg mb : Str → Option Value) (news : Led) (g : Obj → Led) (g2 : Obj → Obj → Led) (dk lc : Addr) (O : Obj) (kvs : List (Str × Value)) (vC : List Value) (nC : Nat) (cells : List Int) (mx tn : Int) (tm9 tt9 : Tok)
    (U : UpdF dk O news g) (U2 : ∀ O', UpdF lc (listOf vC.toArray nC) (g O') (g2 O'))
    (hO : O.IsDictOf (strKind PySem.Challenge.rw_on0368_01.row.prog w) kvs) (hlo : (dk == sysModules) = false) (hk1 : valueAt kvs (Str.ofString "cells") = some (.ref lc)) (hk2 : valueAt kvs (Str.ofString "mixed") = some (.int mx tm9)) (hk3 : valueAt kvs (Str.ofString "turn") = some (.int tn tt9)) (hkl : kvs.length ≤ 100)
    (hiC : IntsAre vC cells) (hcl : cells.length < 1000) (hne1 : lc ≠ dk) (hm0 : 0 ≤ mx) (hm1 : mx < 2147483648) (ht0 : 0 ≤ tn) (ht1 : tn < 1000) :
    Gives w loose mean mg mb 209 14 news [.ref dk, .ref 214] (fun r news' => (∃ v t, r = .int v t ∧ v ∈ menu) ∧ ∃ O' kvs' vC' nC' cells' tt', news' = g2 O' (listOf (List.toArray vC') nC') ∧ O'.IsDictOf (strKind PySem.Challenge.rw_on0368_01.row.prog w) kvs' ∧ valueAt kvs' (Str.ofString "cells") = some (.ref lc) ∧ valueAt kvs' (Str.ofString "mixed") = some (.int mx tm9) ∧ valueAt kvs' (Str.ofString "turn") = some (.int (tn + 1) tt') ∧ kvs'.length ≤ kvs.length + 1 ∧ IntsAre vC' cells' ∧ cells'.length ≤ cells.length) := by
  unfold Gives
  k_fill
  intro dp un gd cn cs a ccd cl outer A₀ base h₀ L m s Q E B F X N T hk hd hu hret
  refine wpAny_call ?_
  have cE0 := InElt.start s.heap
  k_with_none
  k_with "call ref" => (refine' Gives.use (law_drawU _ _ _ _ _ _ _ _ _ _ _ _ _ _ _ _ _ _ _ _ _  U U2 hO hlo hk1 hk2 hk3 hkl hiC hcl hne1 hm0 hm1 ht0 ht1 ?hb0 ?hb1) ?k1 ?k2 ?k3 ?k4 ?k5 ?kK ?kd ?ku ?_; (case k2 => k_asm); (case k4 => k_asm); (case hb0 => decide); (case hb1 => decide); (case k1 => k_asm); (case k3 => k_asm); (case k5 => k_asm); (case kK => first | exact rfl | assumption); (case kd => ktr_room); (case ku => ktr_units); intro r9 n9 h9 tk9 R9 F9 N9; obtain ⟨v9, t9, O9, kvs9, vC9, nC9, cells9, tt9, er9, b19, b29, en9, hO9, k19, k29, k39, l19, i19, l29⟩ := R9; subst er9; subst en9; (try dsimp only); (try k_fold))
  k_dflt k_enter
  clear cE0
  k_steps
  all_goals exact hret _ _ _ _ ⟨⟨_, _, rfl, by decide⟩, O9, kvs9, vC9, nC9, cells9, tt9, rfl, hO9, k19, k29, k39, l19, i19, l29⟩ (by assumption) (by assumption)
theorem pick_lot (w : World) (loose : List Str) (mean : ExcName → Option Value) (mg mb : Str → Option Value) (news : Led) (g : Obj → Led) (g2 : Obj → Obj → Led) (dk lc : Addr) (O : Obj) (kvs : List (Str × Value)) (vC : List Value) (nC : Nat) (cells : List Int) (mx tn : Int) (tm9 tt9 : Tok) (l : Addr) (hl : l ∈ [211, 212, 213, 214])
    (U : UpdF dk O news g) (U2 : ∀ O', UpdF lc (listOf vC.toArray nC) (g O') (g2 O'))
    (hO : O.IsDictOf (strKind PySem.Challenge.rw_on0368_01.row.prog w) kvs) (hlo : (dk == sysModules) = false) (hk1 : valueAt kvs (Str.ofString "cells") = some (.ref lc)) (hk2 : valueAt kvs (Str.ofString "mixed") = some (.int mx tm9)) (hk3 : valueAt kvs (Str.ofString "turn") = some (.int tn tt9)) (hkl : kvs.length ≤ 100)
    (hiC : IntsAre vC cells) (hcl : cells.length < 1000) (hne1 : lc ≠ dk) (hm0 : 0 ≤ mx) (hm1 : mx < 2147483648) (ht0 : 0 ≤ tn) (ht1 : tn < 1000) :
    Gives w loose mean mg mb 209 14 news [.ref dk, .ref l] (fun r news' => (∃ v t, r = .int v t ∧ v ∈ menu) ∧ ∃ O' kvs' vC' nC' cells' tt', news' = g2 O' (listOf (List.toArray vC') nC') ∧ O'.IsDictOf (strKind PySem.Challenge.rw_on0368_01.row.prog w) kvs' ∧ valueAt kvs' (Str.ofString "cells") = some (.ref lc) ∧ valueAt kvs' (Str.ofString "mixed") = some (.int mx tm9) ∧ valueAt kvs' (Str.ofString "turn") = some (.int (tn + 1) tt') ∧ kvs'.length ≤ kvs.length + 1 ∧ IntsAre vC' cells' ∧ cells'.length ≤ cells.length) := by
  rcases List.mem_cons.mp hl with e | hl
  · subst e; exact pick_211 w loose mean mg mb news g g2 dk lc O kvs vC nC cells mx tn tm9 tt9 U U2 hO hlo hk1 hk2 hk3 hkl hiC hcl hne1 hm0 hm1 ht0 ht1
  · rcases List.mem_cons.mp hl with e | hl
    · subst e; exact pick_212 w loose mean mg mb news g g2 dk lc O kvs vC nC cells mx tn tm9 tt9 U U2 hO hlo hk1 hk2 hk3 hkl hiC hcl hne1 hm0 hm1 ht0 ht1
    · rcases List.mem_cons.mp hl with e | hl
      · subst e; exact pick_213 w loose mean mg mb news g g2 dk lc O kvs vC nC cells mx tn tm9 tt9 U U2 hO hlo hk1 hk2 hk3 hkl hiC hcl hne1 hm0 hm1 ht0 ht1
      · rw [List.mem_singleton.mp hl]; exact pick_214 w loose mean mg mb news g g2 dk lc O kvs vC nC cells mx tn tm9 tt9 U U2 hO hlo hk1 hk2 hk3 hkl hiC hcl hne1 hm0 hm1 ht0 ht1
theorem pick_any (w : World) (loose : List Str) (mean : ExcName → Option Value) (mg mb : Str → Option Value) (news : Led) (g : Obj → Led) (g2 : Obj → Obj → Led) (dk lc : Addr) (O : Obj) (kvs : List (Str × Value)) (vC : List Value) (nC : Nat) (cells : List Int) (mx tn : Int) (tm9 tt9 : Tok) (l : Addr) (vs : List Value) (ns : List Int) (nl : Nat)
    (U : UpdF dk O news g) (U2 : ∀ O', UpdF lc (listOf vC.toArray nC) (g O') (g2 O'))
    (hO : O.IsDictOf (strKind PySem.Challenge.rw_on0368_01.row.prog w) kvs) (hlo : (dk == sysModules) = false) (hk1 : valueAt kvs (Str.ofString "cells") = some (.ref lc)) (hk2 : valueAt kvs (Str.ofString "mixed") = some (.int mx tm9)) (hk3 : valueAt kvs (Str.ofString "turn") = some (.int tn tt9)) (hkl : kvs.length ≤ 100)
    (hiC : IntsAre vC cells) (hcl : cells.length < 1000) (hne1 : lc ≠ dk) (hm0 : 0 ≤ mx) (hm1 : mx < 2147483648) (ht0 : 0 ≤ tn) (ht1 : tn < 1000) (hm : (l, listOf vs.toArray nl) ∈ news) (hm2 : ∀ O' o', (l, listOf vs.toArray nl) ∈ g2 O' o') (hi : IntsAre vs ns) (hn : ns.length = 16) (hns : ∀ n ∈ ns, n ∈ menu) :
    Gives w loose mean mg mb 209 14 news [.ref dk, .ref l] (fun r news' => (∃ v t, r = .int v t ∧ v ∈ menu) ∧ ∃ O' kvs' vC' nC' cells' tt', news' = g2 O' (listOf (List.toArray vC') nC') ∧ O'.IsDictOf (strKind PySem.Challenge.rw_on0368_01.row.prog w) kvs' ∧ valueAt kvs' (Str.ofString "cells") = some (.ref lc) ∧ valueAt kvs' (Str.ofString "mixed") = some (.int mx tm9) ∧ valueAt kvs' (Str.ofString "turn") = some (.int (tn + 1) tt') ∧ kvs'.length ≤ kvs.length + 1 ∧ IntsAre vC' cells' ∧ cells'.length ≤ cells.length) := by
  unfold Gives
  k_fill
  intro dp un gd cn cs a ccd cl outer A₀ base h₀ L m s Q E B F X N T hk hd hu hret
  refine wpAny_call ?_
  have cE0 := InElt.start s.heap
  k_with_none
  k_with "my mem" => exact hm2 _ _
  k_with "call ref" => (refine' Gives.use (law_drawU _ _ _ _ _ _ _ _ _ _ _ _ _ _ _ _ _ _ _ _ _  U U2 hO hlo hk1 hk2 hk3 hkl hiC hcl hne1 hm0 hm1 ht0 ht1 ?hb0 ?hb1) ?k1 ?k2 ?k3 ?k4 ?k5 ?kK ?kd ?ku ?_; (case k2 => k_asm); (case k4 => k_asm); (case hb0 => omega); (case hb1 => omega); (case k1 => k_asm); (case k3 => k_asm); (case k5 => k_asm); (case kK => first | exact rfl | assumption); (case kd => ktr_room); (case ku => ktr_units); intro r9 n9 h9 tk9 R9 F9 N9; obtain ⟨v9, t9, O9, kvs9, vC9, nC9, cells9, tt9, er9, b19, b29, en9, hO9, k19, k29, k39, l19, i19, l29⟩ := R9; subst er9; subst en9; (try dsimp only); (try k_fold))
  k_dflt k_enter
  clear cE0
  k_steps
  all_goals exact hret _ _ _ _ ⟨⟨_, _, rfl, hns _ (getD_mem (by omega))⟩, O9, kvs9, vC9, nC9, cells9, tt9, rfl, hO9, k19, k29, k39, l19, i19, l29⟩ (by assumption) (by assumption)
end
end
end
theorem walk_off_WB : True := by
  w_top off
  trivial
section
set_option maxHeartbeats 4000000
theorem news_cut9 {h₀ h : Heap} {L : Addr} {l : Led} (i j : Nat) (N : News h₀ L h l) : News h₀ L h (l.take i ++ l.drop j) := fun p hp => (List.mem_append.mp hp).elim (fun h => N p (List.mem_of_mem_take h)) fun h => N p (List.mem_of_mem_drop h)
theorem fold_rng0 : ∀ (l : List Int) (a : Int), 0 ≤ a → a < 2147483648 → 0 ≤ l.foldl (fun a' n' => (a' * 48271 + n'.fmod 2147483629 + 28411).fmod 2147483587) a ∧ l.foldl (fun a' n' => (a' * 48271 + n'.fmod 2147483629 + 28411).fmod 2147483587) a < 2147483648
  | [], a, h0, h1 => ⟨h0, h1⟩
  | n :: r, a, _, _ => by
    have h := kfm (a * 48271 + n.fmod 2147483629 + 28411) (b := 2147483587) (by decide)
    exact fold_rng0 r ((a * 48271 + n.fmod 2147483629 + 28411).fmod 2147483587) h.1 (by omega)
theorem fold_rng (l : List Int) : 0 ≤ l.foldl (fun a' n' => (a' * 48271 + n'.fmod 2147483629 + 28411).fmod 2147483587) 28411 ∧ l.foldl (fun a' n' => (a' * 48271 + n'.fmod 2147483629 + 28411).fmod 2147483587) 28411 < 2147483648 := fold_rng0 l _ (by decide) (by decide)
structure LS where
  O : Obj
  kvs : List (Str × Value)
  vC : List Value
  nC : Nat
  cells : List Int
  tn : Int
  tt : Tok
  vX : List Value
  nX : Nat
  codes : List Int
def LSled (D : Addr) (oD : Obj) (tx lc dk c1 : Addr) (o1 : Obj) (c2 : Addr) (o2 : Obj) (c3 : Addr) (o3 : Obj) (c4 : Addr) (o4 : Obj) (tl : Led) (c : LS) : Led :=
  (D, oD) :: (tx, listOf c.vX.toArray c.nX) :: (lc, listOf c.vC.toArray c.nC) :: (dk, c.O) :: (c1, o1) :: (c2, o2) :: (c3, o3) :: (c4, o4) :: tl
structure LSok (w : World) (lc : Addr) (mx : Int) (tm : Tok) (n : Nat) (c : LS) : Prop where
  hO : c.O.IsDictOf (strKind PySem.Challenge.rw_on0368_01.row.prog w) c.kvs
  k1 : valueAt c.kvs (Str.ofString "cells") = some (.ref lc)
  k2 : valueAt c.kvs (Str.ofString "mixed") = some (.int mx tm)
  k3 : valueAt c.kvs (Str.ofString "turn") = some (.int c.tn c.tt)
  l1 : c.kvs.length ≤ 10 + 2 * n
  i1 : IntsAre c.vC c.cells
  l2 : c.cells.length < 1000
  t1 : c.tn = 2 + 2 * n
  i2 : IntsAre c.vX c.codes
  l3 : c.codes.length = n
  m1 : ∀ x ∈ c.codes, x ∈ menu
theorem range_n {b : Int} (h0 : 0 ≤ b) (h1 : b < 2 ^ 20) : Builtin.Range.small 0 b 1 = true ∧ Builtin.Range.rangeSize 0 b 1 = ((b.toNat : Nat) : Int) := by
  refine ⟨small_one (by omega) (by omega) (by omega) (by omega), ?_⟩
  rw [rangeSize_nat]; simp
theorem ne_of_hf {tl L0 : Led} {d : Addr} {o : Obj} (hf : ∀ p ∈ tl, ∀ q ∈ L0, q.1 ≠ p.1) (hm : (d, o) ∈ L0) : ∀ p ∈ tl, p.1 ≠ d := fun p hp e => hf p hp (d, o) hm e.symm
theorem news_swap {h₀ h : Heap} {L : Addr} {a b : Led} (N : News h₀ L h (a ++ b)) : News h₀ L h (b ++ a) := fun p hp => N p ((List.mem_append.mp hp).elim (fun h => List.mem_append_right _ h) fun h => List.mem_append_left _ h)
theorem LSok.start {w : World} {lc : Addr} {mx : Int} {tm tt : Tok} {O : Obj} {kvs : List (Str × Value)} {vC : List Value} {nC : Nat} {cells : List Int} (hO : O.IsDictOf (strKind PySem.Challenge.rw_on0368_01.row.prog w) kvs)
    (k1 : valueAt kvs (Str.ofString "cells") = some (.ref lc)) (k2 : valueAt kvs (Str.ofString "mixed") = some (.int mx tm)) (k3 : valueAt kvs (Str.ofString "turn") = some (.int (0 + 1 + 1) tt)) (l1 : kvs.length ≤ 10) (i1 : IntsAre vC cells) (l2 : cells.length < 1000) :
    LSok w lc mx tm 0 ⟨O, kvs, vC, nC, cells, 2, tt, [], 0, []⟩ :=
  ⟨hO, k1, k2, k3, l1, i1, l2, rfl, IntsAre.nil, rfl, fun _ h => nomatch h⟩
end
theorem walk_off_WS : True := by
  w_top off
  trivial
section
set_option maxHeartbeats 4000000
theorem LSok.next {w : World} {lc : Addr} {mx : Int} {tm tt t : Tok} {n N : Nat} {O : Obj} {kvs : List (Str × Value)} {vC vX : List Value} {nC nX : Nat} {cells codes : List Int} {tn v : Int} (hO : O.IsDictOf (strKind PySem.Challenge.rw_on0368_01.row.prog w) kvs)
    (k1 : valueAt kvs (Str.ofString "cells") = some (.ref lc)) (k2 : valueAt kvs (Str.ofString "mixed") = some (.int mx tm)) (k3 : valueAt kvs (Str.ofString "turn") = some (.int tn tt)) (i1 : IntsAre vC cells) (i2 : IntsAre vX codes) (m1 : ∀ x ∈ codes, x ∈ menu) (hv : v ∈ menu)
    (l3 : codes.length = n) (hN : N = n + 1) (l1 : kvs.length ≤ 10 + 2 * (n + 1)) (l2 : cells.length < 1000) (t1 : tn = 2 + 2 * ((n : Int) + 1)) :
    LSok w lc mx tm N ⟨O, kvs, vC, nC, cells, tn, tt, vX ++ [.int v t], nX + 1, codes ++ [v]⟩ := by
  subst hN
  refine ⟨hO, k1, k2, k3, l1, i1, l2, ?_, IntsAre.append i2 (IntsAre.cons _ _ IntsAre.nil), ?_, ?_⟩
  · show tn = 2 + 2 * (((n + 1 : Nat)) : Int); omega
  · show (codes ++ [v]).length = n + 1; rw [List.length_append, l3]; rfl
  · intro x hx
    rcases List.mem_append.mp hx with hx | hx
    · exact m1 x hx
    · exact (List.mem_singleton.mp hx) ▸ hv
theorem kst_same0X {x : Str} {m₀ u : Str → Option Value} {v : Option Value} {z : Str} (h1 : z ≠ x) (h3 : ([] : List Str).contains z = false) : (fun y => if y = x then v else kstB (fun z => if ([] : List Str).contains z = true then u z else m₀ z) [] y) z = m₀ z := by
  show (if z = x then v else if ([] : List Str).contains z = true then u z else m₀ z) = m₀ z
  rw [if_neg h1, if_neg (by rw [h3]; decide)]
def sortD : List (Int × PyData) := (menu.zip srt).map fun p => (p.1, PyData.str p.2)
def sortQ : List Int := [10, 13, 97, 768, 2307, 2325, 2364, 2381, 4352, 4449, 4520, 8205, 44032, 44033, 127462, 128512]
theorem sorts_keyed {P : Params} {h : Heap} (x : (hd.heap_1 P).In h) : KTD.Keyed h 210 sortD := kt_keyed_in x (by kernel_rfl)
theorem sorts_look : ∀ c ∈ menu, PySem.Spec.lookup (PyData.int c) (sortD.map fun p => (PyData.int p.1, p.2)) = some (PyData.str (sortF c)) := by
  show ∀ c ∈ [4352, 4449, 4520, 44032, 44033, 127462, 128512, 8205, 768, 2325, 2381, 2364, 97, 13, 10, 2307], _
  repeat (refine List.forall_mem_cons.mpr ⟨by rfl, ?_⟩)
  exact List.forall_mem_nil _
theorem lks_vals_are : ∀ (q : List Int) (i : Nat) (t : Nat → Tok), IntsAre (lks_vals q i t) q
  | [], _, _ => .nil
  | _ :: r, i, t => .cons _ _ (lks_vals_are r (i + 1) t)
theorem keysD_ints : ∀ {D : List (Int × PyData)} {C : List Value → Prop}, (∀ vs, kf_ints vs = true → lks_nums vs = D.map (·.1) → C vs) → KdlKeysD (D.map fun p => (PyData.int p.1, p.2)) C
  | [], _, h => h [] rfl rfl
  | p :: r, C, h => fun v hv => by
    obtain ⟨t, e⟩ := PyProof.V.Flat.int_inv hv
    subst e
    exact keysD_ints (D := r) fun vs h1 h2 => h _ h1 (by show p.1 :: lks_nums vs = _; rw [h2]; rfl)
section
variable {prog : Program} {w : World} {A : Around} {E : Value → Shared → Prop} {s : Shared} {h₀ : Heap} {L : Addr} {m : Str → Option Value} {news : List (Addr × Obj)} {P : Params} {Q : Value → Shared → Prop}
theorem sorted_sorts (X : (hd.heap_1 P).In h₀) (hh : A.handled = none) (F : Fr h₀ L s.heap m) (N : News h₀ L s.heap news)
    (h : ∀ (B : Addr) (vs : List Value) n h' tk, Fr h₀ L h' m → News h₀ L h' ((B, listOf vs.toArray n) :: news) → (∀ q ∈ news, q.1 < B) → IntsAre vs sortQ → Q (.ref B) { s with heap := h', toks := tk }) :
    wpAny (model prog w) A (call (.builtin "sorted") [.ref 210]) Q E s := by
  refine kdu_sortedD (knd := PySem.intKind prog w) (enc := PyData.int) (fun _ _ => kdl_flat_int) hh F N ((sorts_keyed X).keep F.keep prog w) (by decide) fun B h' tk => keysD_ints fun vs h1 h2 F' N' l1 => ?_
  have hl : vs.length = 16 := by
    have := (lks_are h1).length
    rw [h2] at this
    exact this
  refine lks_sort (its := vs.toArray) (q := sortQ) F' N' (fun t => Upd.head fun p hp => Nat.ne_of_lt (l1 p hp)) h1 ?_ ?_ ?_ fun t h'' F'' N'' => h B _ _ h'' tk F'' N'' l1 (lks_vals_are _ _ _)
  · show (lks_nums vs).isPerm sortQ && lks_asc sortQ = true
    rw [h2]; decide
  · cases vs with
    | nil => cases hl
    | cons => rfl
  · show vs.length < 64; omega
theorem sorts_item {value slice : PySem.Expr} {c : Int} {t : Tok} (X : (hd.heap_1 P).In h₀) (F : Fr h₀ L s.heap m) (hc : c ∈ menu) (h : ∀ u, Q (.str (sortF c) u) { s with toks := s.toks + 1 })
    (hs : subscripted slice false (.ref 210) (.int c t) = operate [.ref 210, .int c t] (getItem (.ref 210) (.int c t)) := by with_unfolding_all rfl) (hg : ∀ r, letTemporaryGo value (.ref 210) r = pure () := by intro _; with_unfolding_all rfl) :
    wpAny (model prog w) A (subscriptTail value slice (.ref 210) (.int c t)) Q E s :=
  item_intTab ((sorts_keyed X).keep F.keep prog w) (sorts_look c hc) (fun v hv => by obtain ⟨u, e⟩ := PyProof.V.Flat.str_inv hv; subst e; exact h u) hs hg
end
end
theorem walk_off_WD : True := by
  w_top off
  trivial
section
set_option maxHeartbeats 4000000
theorem carried_strs : ∀ {vs : List Value} {ns : List Str}, CarriedAll vs (ns.map PyData.str) → StrsAre vs ns
  | _, [], h => by cases h; exact .nil
  | _, _ :: _, h => by
    cases h with
    | cons h1 h2 => cases h1; exact .cons _ _ (carried_strs h2)
theorem carried_srt {vs : List Value} {ks : List Int} (h : CarriedAll vs (ks.map fun k => PyData.str (sortF k))) : StrsAre vs (ks.map sortF) := carried_strs (by rw [List.map_map]; exact h)
theorem len10 {n : Nat} {v : Int} (h : n = (1 + v).toNat) (h2 : v < 10) : n ≤ 10 := by omega
theorem menu_rng : ∀ c ∈ menu, 0 ≤ c ∧ c < 2000000 := by decide
theorem uendC {h₀ : Heap} {L I : Addr} {o : Obj} {rest : (Str → Option Value) → Led → Prop} {s₁ : Shared} {h' : Heap} {tk : Nat} {m' : Str → Option Value} {news' : Led} (F : Fr h₀ L h' m') (N : News h₀ L h' ((I, o) :: news')) (off : ∀ p ∈ news', p.1 ≠ I) (r : rest m' news') : UnrEndW h₀ L s₁ [(I, o)] rest { s₁ with heap := h', toks := tk } :=
  ⟨h', tk, m', news', rfl, F, N, fun p hp q hq => by rw [List.mem_singleton.mp hq]; exact off p hp, r⟩
theorem core3 (p : Int) (h0 : 0 ≤ p) (h3 : p < 3) : coreV [127462, 127462, 127462] false p = if p = 0 then 2 else 3 := by
  have : p = 0 ∨ p = 1 ∨ p = 2 := by omega
  rcases this with e | e | e
  · subst e; exact (coreV_is (by decide) (Or.inl ⟨by decide, by decide⟩)).symm
  · subst e; exact (coreV_is (by decide) (Or.inl ⟨by decide, by decide⟩)).symm
  · subst e; exact (coreV_is (by decide) (Or.inl ⟨by decide, by decide⟩)).symm

section
variable {prog : Program} {w : World} {A : Around} {E : Value → Shared → Prop} {s : Shared} {h₀ : Heap} {L a b : Addr} {news : List (Addr × Obj)} {xs ys : List Value} {ns : List Int} {n n2 : Nat} {Q : Value → Shared → Prop}
theorem ne_ints_same (N : News h₀ L s.heap news) (ha : (a, listOf xs.toArray n) ∈ news) (hb : (b, listOf ys.toArray n2) ∈ news) (hi : IntsAre xs ns) (hj : IntsAre ys ns) (hu : A.units + 64 < cLine) (h : Q (.bool false) s) :
    wpAny (model prog w) A (compareOp .NotEq (.ref a) (.ref b)) Q E s :=
  ke_ne_ints (PySem.IsL.isList (n := n) (N _ ha).1) (PySem.IsL.isList (n := n2) (N _ hb).1) hi hj hu (by simpa using h)
theorem eq_ints_same (N : News h₀ L s.heap news) (ha : (a, listOf xs.toArray n) ∈ news) (hb : (b, listOf ys.toArray n2) ∈ news) (hi : IntsAre xs ns) (hj : IntsAre ys ns) (hu : A.units + 64 < cLine) (h : Q (.bool true) s) :
    wpAny (model prog w) A (compareOp .Eq (.ref a) (.ref b)) Q E s :=
  ke_eq_ints (PySem.IsL.isList (n := n) (N _ ha).1) (PySem.IsL.isList (n := n2) (N _ hb).1) hi hj hu (by simpa using h)
end

theorem range_len {n m : Nat} (e : n = m) (h : m ≤ 10) : Builtin.Range.small 0 (n : Int) 1 = true ∧ Builtin.Range.rangeSize 0 (n : Int) 1 = (m : Int) := by
  subst e
  refine ⟨small_one (by omega) (by omega) (by omega) (by omega), ?_⟩
  rw [rangeSize_nat]; simp
theorem le_line {n : Nat} (h : n ≤ 10) : n ≤ sizeLine := by rw [PySem.sizeLine_eq]; omega
theorem lt_len {k : Int} {n : Nat} (h : k < 0 + (n : Int)) : k < (n : Int) := by omega
end
section
local macro_rules | `(tactic| k_all) => `(tactic| assumption)
local macro_rules | `(tactic| k_all) => `(tactic| first | (refine ne_of_hf (o := ?ob9) (by assumption) ?hm9; (case hm9 => k_mem)) | (refine fun p hp => Nat.ne_of_lt (ktn_ltOf ?_ p hp); first | assumption | exact (by assumption : _ ∧ AllLt _ _).2 | exact (by assumption : _ ∧ _ ∧ AllLt _ _).2.2 | exact (by assumption : _ ∧ _ ∧ _ ∧ AllLt _ _).2.2.2 | exact (by assumption : _ ∧ _ ∧ _ ∧ _ ∧ AllLt _ _).2.2.2.2 | exact (by assumption : _ ∧ _ ∧ _ ∧ _ ∧ _ ∧ AllLt _ _).2.2.2.2.2 | exact (by assumption : _ ∧ _ ∧ _ ∧ _ ∧ _ ∧ _ ∧ AllLt _ _).2.2.2.2.2.2 | exact (by assumption : _ ∧ _ ∧ _ ∧ _ ∧ _ ∧ _ ∧ _ ∧ AllLt _ _).2.2.2.2.2.2.2 | exact (by assumption : _ ∧ _ ∧ _ ∧ _ ∧ _ ∧ _ ∧ _ ∧ _ ∧ AllLt _ _).2.2.2.2.2.2.2.2 | exact (by assumption : _ ∧ _ ∧ _ ∧ _ ∧ _ ∧ _ ∧ _ ∧ _ ∧ _ ∧ AllLt _ _).2.2.2.2.2.2.2.2.2 | exact (by assumption : _ ∧ _ ∧ _ ∧ _ ∧ _ ∧ _ ∧ _ ∧ _ ∧ _ ∧ _ ∧ AllLt _ _).2.2.2.2.2.2.2.2.2.2 | exact (by assumption : _ ∧ _ ∧ _ ∧ _ ∧ _ ∧ _ ∧ _ ∧ _ ∧ _ ∧ _ ∧ _ ∧ AllLt _ _).2.2.2.2.2.2.2.2.2.2.2 | exact (by assumption : _ ∧ _ ∧ _ ∧ _ ∧ _ ∧ _ ∧ _ ∧ _ ∧ _ ∧ _ ∧ _ ∧ _ ∧ AllLt _ _).2.2.2.2.2.2.2.2.2.2.2.2 | exact (by assumption : _ ∧ _ ∧ _ ∧ _ ∧ _ ∧ _ ∧ _ ∧ _ ∧ _ ∧ _ ∧ _ ∧ _ ∧ _ ∧ AllLt _ _).2.2.2.2.2.2.2.2.2.2.2.2.2))
section
local macro_rules | `(tactic| k_all) => `(tactic| (refine List.forall_mem_append.mpr ⟨?_, ?_⟩; (focus k_all); k_all))
local macro_rules | `(tactic| k_qdec) => `(tactic| first | exact nOk | exact iOk)
theorem walk_off_WF : True := by
  w_top off
  trivial
section
set_option maxHeartbeats 4000000
theorem law_holds : PySem.Challenge.rw_on0368_01.Holds := Mine.hd1 (by
  k_go0
  (all_goals try k_fold)
  k_with_none
  k_with "CompSrc" => (have q9 : tl9 = tl9 := rfl; clear q9; (first | ((rename IsRange _ _ _ _ _ _ _ _ => hR9); (refine LCg.CompSrc.range (b := 3) (n := 3) (by rfl) (by k_asm) (by k_asm) hR9 (range_len (n := 3) rfl (by decide)).1 (range_len (n := 3) rfl (by decide)).2 (le_line (by first | exact hn9 | decide)) ?_); intro g'; refine' kcf_range (fun k => if k = 0 then (2 : Int) else 3) (fun k' t' I' oI' C' oC' D' m' ys' h' tk' E' hlo' hhi' hC' hx' F' N' off' ne' hMark' => ?_) ?_; (all_goals (try (simp only [LCg.Off3, and_true] at off')))) | ((rename IsRange _ _ _ _ _ _ _ _ => hR9); (have z9 : ∃ o : Obj, o.data = Data.cell (some (Value.bool true)) := ⟨_, by assumption⟩); (refine LCg.CompSrc.range (b := (codes9.length : Int)) (n := codes9.length) (by rfl) (by k_asm) (by k_asm) hR9 (range_len rfl hn9).1 (range_len rfl hn9).2 (le_line (by first | exact hn9 | decide)) ?_); intro g'; refine' kcf_range (fun k => coreV codes9 true k) (fun k' t' I' oI' C' oC' D' m' ys' h' tk' E' hlo' hhi' hC' hx' F' N' off' ne' hMark' => ?_) ?_; (all_goals (try (simp only [LCg.Off3, and_true] at off')))) | ((rename IsRange _ _ _ _ _ _ _ _ => hR9); (refine LCg.CompSrc.range (b := (codes9.length : Int)) (n := codes9.length) (by rfl) (by k_asm) (by k_asm) hR9 (range_len rfl hn9).1 (range_len rfl hn9).2 (le_line (by first | exact hn9 | decide)) ?_); intro g'; refine' kcf_range (fun k => coreV codes9 false k) (fun k' t' I' oI' C' oC' D' m' ys' h' tk' E' hlo' hhi' hC' hx' F' N' off' ne' hMark' => ?_) ?_; (all_goals (try (simp only [LCg.Off3, and_true] at off')))) | (refine LCg.CompSrc.ledger (by rfl) (by k_asm) (by k_asm) (by k_mem) (by rw [List.size_toArray, hl9]; exact le_line hn9) ?_; intro g'; refine' kct_list sortF i29 (fun k' t' I' oI' C' oC' D' m' ys' h' tk' E' hk' hC' hx' F' N' off' ne' hMark' => ?_) ?_; (all_goals (try (simp only [LCg.Off3, and_true] at off'))))))
  k_with "my item" => (refine' sorts_item ?sX ?sF (m19 _ (by assumption)) ?_; (case sF => k_asm); (case sX => k_in); intro u9; (try dsimp only); (try k_fold))
  k_with "CompEnd" => (have q9 : tl9 = tl9 := rfl; clear q9; (first | refine' LCg.CompEnd.intro ?zF ?zN _ ?zs ?zo ?zS (kct_el rfl rfl rfl) | refine' LCg.CompEnd.intro ?zF ?zN _ ?zs ?zo ?zS (kcf_el rfl rfl rfl) | refine' LCg.CompEnd.intro ?zF ?zN _ ?zs ?zo ?zS (kcf_el (core3 _ hlo' (lt_len hhi')).symm rfl rfl)); (case zF => assumption); (case zN => assumption); (case zs => kcf_all); (case zo => first | assumption | (simp only [LCg.Off3, and_true]; done) | (simp only [LCg.Off3, and_true]; assumption)); (case zS => first | lcg_src | assumption))
  k_with "KPfDone" => (have q9 : tl9 = tl9 := rfl; clear q9; (unfold KPfDone; first | (intro ys9 hC9 hL9; have iS9 := carried_srt hC9; clear hC9) | (intro ys9 iV9)))
  k_with "UnrEndW" => (k_here; (rename Fr _ _ _ _ => kF9); (rename News _ _ _ _ => kN9); replace kN9 := news_cut9 0 2 kN9; (simp only [List.take_zero, List.drop_succ_cons, List.drop_zero, List.nil_append] at kN9); refine uendC kF9 kN9 (by k_all) ⟨⟨by k_mem, trivial⟩, ?_⟩; (rename _ ≠ _ ∧ _ => z9; clear z9); (rename _ ≠ _ ∧ _ => z9; clear z9))
  k_with "compareOp NotEq ref ref" => (refine' ne_ints_same ?N ?a ?b ?i ?j ?u ?_; (case N => k_asm); (case a => k_mem); (case b => k_mem); (case i => assumption); (case j => assumption); (case u => ke_room))
  k_with "compareOp Eq ref ref" => (refine' eq_ints_same ?N ?a ?b ?i ?j ?u ?_; (case N => k_asm); (case a => k_mem); (case b => k_mem); (case i => assumption); (case j => exact IntsAre.cons 2 _ (IntsAre.cons 3 _ (IntsAre.cons 3 _ IntsAre.nil))); (case u => ke_room))
  k_with "call builtin:sorted" => (refine' sorted_sorts ?sX ?sh ?sF ?sN ?_; (case sF => k_asm); (case sN => k_asm); (case sX => k_in); (case sh => rfl); intro D' vs9 nb9 h' tk' F' N' l1 iQ9; (try k_lt l1); (try dsimp only))
  k_with "InvEndN" => ((rename Fr _ _ _ _ => kF9); (rename News _ _ _ _ => kN9); (simp only [List.push_toArray] at kN9); refine' kst_end ⟨O9, kvs9, vC9, nC9, cells9, tn9 + 1 + 1, tt9, vX9 ++ [Value.int v9 t9], nX9 + 1, codes9 ++ [v9]⟩ kF9 kN9 ?zn ?zo ?za trivial ?zk ?zr ?zp; (case zn => (dsimp only [LSled]; kcf_all)); (case zo => kcf_all); (case za => rfl); (case zk => intro p hp; exact (nomatch hp)); (case zr => exact fun z h1 _ h3 => kst_same0X h1 h3); (case zp => (have e9 : (pre ++ [k]).length = pre.length + 1 := (by rw [List.length_append]; rfl); have e91 : kvs9.length ≤ 10 + 2 * (pre.length + 1) := (by omega); have e92 : cells9.length < 1000 := (by omega); have e93 : tn9 + 1 + 1 = 2 + 2 * ((pre.length : Int) + 1) := (by omega); exact LSok.next hO9 k19 k29 k39 i19 i29 m19 hm9 l39 e9 e91 e92 e93)))
  k_with "call ref" => (first | (refine' GivesN.use (law_data _ _ _ _ _) ?k1 ?k2 ?k3 ?k4 ?k5 ?kK ?kd ?ku ?_; (case k2 => k_asm); (case k4 => k_asm); (case k1 => k_asm); (case k3 => k_asm); (case k5 => k_asm); (case kK => first | exact rfl | assumption); (case kd => first | decide | ktr_room); (case ku => first | decide | ktr_units); intro r9 tl9 h9 tk9 R9 hf9 F9 N9 E9; obtain ⟨dx9, er9, hD9⟩ := R9; subst er9; replace N9 := news_swap N9; (try simp only [List.cons_append, List.nil_append] at N9); replace N9 := news_cut9 2 5 N9; (simp only [List.take_succ_cons, List.take_zero, List.drop_succ_cons, List.drop_zero, List.cons_append, List.nil_append] at N9); (try dsimp only); (try k_fold)) | (refine' Gives.use (pick_lots _ _ _ _ _ _ _ _ _ _ _ _ _ _ _ _ _ _ _  ?U ?U2 ?hO ?hlo ?hk1 ?hk2 ?hk3 ?hkl ?hiC ?hcl ?hne1 ?hm0 ?hm1 ?ht0 ?ht1) ?k1 ?k2 ?k3 ?k4 ?k5 ?kK ?kd ?ku ?_; (case k2 => k_asm); (case k4 => k_asm); (case U => k_updF); (case hO => assumption); (case hlo => assumption); (case hk1 => first | assumption | with_unfolding_all rfl); (case hk2 => first | assumption | with_unfolding_all rfl); (case hk3 => first | assumption | with_unfolding_all rfl); (case U2 => (intro O9; k_updF)); (case hkl => first | omega | exact Nat.le_of_ble_eq_true (by with_unfolding_all rfl)); (case hiC => assumption); (case hcl => first | omega | ((simp only [List.length_reverse, List.length_map, List.length_take]); omega)); (case hne1 => k_ne); (case hm0 => first | omega | exact (fold_rng _).1); (case hm1 => first | omega | exact (fold_rng _).2); (case ht0 => omega); (case ht1 => omega); (case k1 => k_asm); (case k3 => k_asm); (case k5 => k_asm); (case kK => first | exact rfl | assumption); (case kd => first | decide | ktr_room); (case ku => first | decide | ktr_units); intro r9 n9 h9 tk9 R9 F9 N9; obtain ⟨⟨l9, er9, hl9⟩, O9, kvs9, vC9, nC9, cells9, tt9, en9, hO9, k19, k29, k39, l19, i19, l29⟩ := R9; subst er9; subst en9; (try (replace l19 : kvs9.length ≤ 4 := Nat.le_trans l19 (Nat.le_of_ble_eq_true (by with_unfolding_all rfl)))); (try simp only [List.length_reverse, List.length_map, List.length_take] at l29); (try dsimp only at N9); (try dsimp only); (try k_fold)) | (refine' Gives.use (pick_lot _ _ _ _ _ _ _ _ _ _ _ _ _ _ _ _ _ _ _ _  ?hl ?U ?U2 ?hO ?hlo ?hk1 ?hk2 ?hk3 ?hkl ?hiC ?hcl ?hne1 ?hm0 ?hm1 ?ht0 ?ht1) ?k1 ?k2 ?k3 ?k4 ?k5 ?kK ?kd ?ku ?_; (case k2 => k_asm); (case k4 => k_asm); (case hl => assumption); (case U => k_updF); (case hO => assumption); (case hlo => assumption); (case hk1 => first | assumption | with_unfolding_all rfl); (case hk2 => first | assumption | with_unfolding_all rfl); (case hk3 => first | assumption | with_unfolding_all rfl); (case U2 => (intro O9; k_updF)); (case hkl => first | omega | exact Nat.le_of_ble_eq_true (by with_unfolding_all rfl)); (case hiC => assumption); (case hcl => first | omega | ((simp only [List.length_reverse, List.length_map, List.length_take]); omega)); (case hne1 => k_ne); (case hm0 => first | omega | exact (fold_rng _).1); (case hm1 => first | omega | exact (fold_rng _).2); (case ht0 => omega); (case ht1 => omega); (case k1 => k_asm); (case k3 => k_asm); (case k5 => k_asm); (case kK => first | exact rfl | assumption); (case kd => first | decide | ktr_room); (case ku => first | decide | ktr_units); intro r9 n9 h9 tk9 R9 F9 N9; obtain ⟨⟨v9, t9, er9, hm9⟩, O9, kvs9, vC9, nC9, cells9, tt9, en9, hO9, k19, k29, k39, l19, i19, l29⟩ := R9; subst er9; subst en9; (try (replace l19 : kvs9.length ≤ 4 := Nat.le_trans l19 (Nat.le_of_ble_eq_true (by with_unfolding_all rfl)))); (try simp only [List.length_reverse, List.length_map, List.length_take] at l29); (try dsimp only at N9); (try dsimp only); (try k_fold)) | (refine' Gives.use (pick_any _ _ _ _ _ _ _ _ _ _ _ _ _ _ _ _ _ _ _ _ _ _ _  ?U ?U2 ?hO ?hlo ?hk1 ?hk2 ?hk3 ?hkl ?hiC ?hcl ?hne1 ?hm0 ?hm1 ?ht0 ?ht1 ?hm ?hm2 ?hi ?hn ?hns) ?k1 ?k2 ?k3 ?k4 ?k5 ?kK ?kd ?ku ?_; (case k2 => k_asm); (case k4 => k_asm); (case U => k_updF); (case hO => assumption); (case hlo => assumption); (case hk1 => first | assumption | with_unfolding_all rfl); (case hk2 => first | assumption | with_unfolding_all rfl); (case hk3 => first | assumption | with_unfolding_all rfl); (case U2 => (intro O9; k_updF)); (case hkl => first | omega | exact Nat.le_of_ble_eq_true (by with_unfolding_all rfl)); (case hiC => assumption); (case hcl => first | omega | ((simp only [List.length_reverse, List.length_map, List.length_take]); omega)); (case hne1 => k_ne); (case hm0 => first | omega | exact (fold_rng _).1); (case hm1 => first | omega | exact (fold_rng _).2); (case ht0 => omega); (case ht1 => omega); (case hm => k_mem); (case hm2 => (intro O9 o9; k_mem)); (case hi => first | assumption | l_ints); (case hn => first | rfl | assumption); (case hns => first | decide | assumption); (case k1 => k_asm); (case k3 => k_asm); (case k5 => k_asm); (case kK => first | exact rfl | assumption); (case kd => first | decide | ktr_room); (case ku => first | decide | ktr_units); intro r9 n9 h9 tk9 R9 F9 N9; obtain ⟨⟨v9, t9, er9, hm9⟩, O9, kvs9, vC9, nC9, cells9, tt9, en9, hO9, k19, k29, k39, l19, i19, l29⟩ := R9; subst er9; subst en9; (try (replace l19 : kvs9.length ≤ 4 := Nat.le_trans l19 (Nat.le_of_ble_eq_true (by with_unfolding_all rfl)))); (try simp only [List.length_reverse, List.length_map, List.length_take] at l29); (try dsimp only at N9); (try dsimp only); (try k_fold)) | (refine' Gives.use (law_drawU _ _ _ _ _ _ _ _ _ _ _ _ _ _ _ _ _ _ _ _ _  ?U ?U2 ?hO ?hlo ?hk1 ?hk2 ?hk3 ?hkl ?hiC ?hcl ?hne1 ?hm0 ?hm1 ?ht0 ?ht1 ?hb0 ?hb1) ?k1 ?k2 ?k3 ?k4 ?k5 ?kK ?kd ?ku ?_; (case k2 => k_asm); (case k4 => k_asm); (case U => k_updF); (case hO => assumption); (case hlo => assumption); (case hk1 => first | assumption | with_unfolding_all rfl); (case hk2 => first | assumption | with_unfolding_all rfl); (case hk3 => first | assumption | with_unfolding_all rfl); (case U2 => (intro O9; k_updF)); (case hkl => first | omega | exact Nat.le_of_ble_eq_true (by with_unfolding_all rfl)); (case hiC => assumption); (case hcl => first | omega | ((simp only [List.length_reverse, List.length_map, List.length_take]); omega)); (case hne1 => k_ne); (case hm0 => first | omega | exact (fold_rng _).1); (case hm1 => first | omega | exact (fold_rng _).2); (case ht0 => omega); (case ht1 => omega); (case hb0 => omega); (case hb1 => omega); (case k1 => k_asm); (case k3 => k_asm); (case k5 => k_asm); (case kK => first | exact rfl | assumption); (case kd => first | decide | ktr_room); (case ku => first | decide | ktr_units); intro r9 n9 h9 tk9 R9 F9 N9; obtain ⟨v9, t9, O9, kvs9, vC9, nC9, cells9, tt9, er9, b19, b29, en9, hO9, k19, k29, k39, l19, i19, l29⟩ := R9; subst er9; subst en9; (try (replace l19 : kvs9.length ≤ 4 := Nat.le_trans l19 (Nat.le_of_ble_eq_true (by with_unfolding_all rfl)))); (try simp only [List.length_reverse, List.length_map, List.length_take] at l29); (try dsimp only at N9); (try dsimp only); (try k_fold)) | (refine' GivesP.use (coreF _ _ _ _ _ _ _ _ _ _ _ _ _ _  ?H ?hm ?hi ?hlen ?hT ?h0 ?h1) ?k1 ?k2 ?k3 ?k4 ?k5 ?kK ?kd ?ku ?_; (case k2 => k_asm); (case k4 => k_asm); (case H => exact DataIn.mono hD9 (by kcf_all)); (case hm => k_mem); (case hi => exact i29); (case hlen => exact Nat.lt_of_le_of_lt hn9 (by decide)); (case hT => exact fun c hc => menu_rng c (m19 c hc)); (case h0 => exact hlo'); (case h1 => exact lt_len hhi'); (case k1 => k_asm); (case k3 => k_asm); (case k5 => k_asm); (case kK => first | exact rfl | assumption); (case kd => first | decide | ktr_room); (case ku => first | decide | ktr_units); intro r9 h9 tk9 R9 F9 N9 E9; clear E9; obtain ⟨t9, er9⟩ := R9; subst er9; (try dsimp only); (try k_fold)) | (refine' GivesP.use (lawF _ _ _ _ _ _ _ _ _ _ _ _ _  ?hm ?hi ?hlen ?hT ?h0 ?h1) ?k1 ?k2 ?k3 ?k4 ?k5 ?kK ?kd ?ku ?_; (case k2 => k_asm); (case k4 => k_asm); (case hm => k_mem); (case hi => exact iS9); (case hlen => exact Nat.lt_of_le_of_lt hn9 (by decide)); (case hT => exact m19); (case h0 => exact hlo'); (case h1 => exact lt_len hhi'); (case k1 => k_asm); (case k3 => k_asm); (case k5 => k_asm); (case kK => first | exact rfl | assumption); (case kd => first | decide | ktr_room); (case ku => first | decide | ktr_units); intro r9 h9 tk9 R9 F9 N9 E9; clear E9; obtain ⟨t9, er9⟩ := R9; subst er9; (try dsimp only); (try k_fold)) | (refine' GivesP.use (coreF _ _ _ _ _ _ _ _ _ _ _ _ _ _  ?H ?hm ?hi ?hlen ?hT ?h0 ?h1) ?k1 ?k2 ?k3 ?k4 ?k5 ?kK ?kd ?ku ?_; (case k2 => k_asm); (case k4 => k_asm); (case H => exact DataIn.mono hD9 (by kcf_all)); (case hm => k_mem); (case hi => exact IntsAre.cons 127462 _ (IntsAre.cons 127462 _ (IntsAre.cons 127462 _ IntsAre.nil))); (case hlen => decide); (case hT => decide); (case h0 => exact hlo'); (case h1 => exact lt_len hhi'); (case k1 => k_asm); (case k3 => k_asm); (case k5 => k_asm); (case kK => first | exact rfl | assumption); (case kd => first | decide | ktr_room); (case ku => first | decide | ktr_units); intro r9 h9 tk9 R9 F9 N9 E9; clear E9; obtain ⟨t9, er9⟩ := R9; subst er9; (try dsimp only); (try k_fold)))
  k_with "pyIter ref" => (have q9 : tl9 = tl9 := rfl; (k_here; (rename Fr _ _ _ _ => lF'); (rename News _ _ _ _ => lN'); refine' kst_range (LSled _ _ _ _ _ _ _ _ _ _ _ _ _ tl9) (fun _ => []) (fun _ => True) [] (fun pre c => LSok _ _ _ _ pre.length c) ⟨O9, kvs9, vC9, nC9, cells9, 2, tt9, [], 0, []⟩ rfl ?yr ?ys ?yn lF' lN' trivial ?yk (LSok.start hO9 k19 k29 k39 ?yp i19 ?yq) ?yt ?yd; (case yr => assumption); (case yp => show kvs9.length ≤ 10; omega); (case yq => show cells9.length < 1000; omega); (case ys => exact (range_n (by omega) (by omega)).1); (case yn => exact (range_n (by omega) (by omega)).2); (case yk => (intro p hp; exact (nomatch hp))); all_goals (first | ((intro c u h tk _ hP9 F' N'); (obtain ⟨O9, kvs9, vC9, nC9, cells9, tn9, tt9, vX9, nX9, codes9⟩ := c); (obtain ⟨hO9, k19, k29, k39, l19, i19, l29, t19, i29, l39, m19⟩ := hP9); (try dsimp only at hO9 k19 k29 k39 l19 i19 l29 t19 i29 l39 m19); (try dsimp only [LSled] at N'); (rw [rangeKs_length] at l39); (clear hO9 k19 k29 k39 l19 i19 l29 t19); (replace N' := news_cut9 1 3 (news_cut9 0 1 N')); (simp only [List.take_succ_cons, List.take_zero, List.drop_succ_cons, List.drop_zero, List.cons_append, List.nil_append] at N'); (have hl9 := i29.length); (have hn9 : codes9.length ≤ 10 := len10 l39 b29); (rename IsRange _ _ _ _ _ _ _ _ => hR9; clear hR9); (try k_fold)) | ((intro c pre k t u h tk own hk9 hp9 hoff9 _ hP9 F' N'); (obtain ⟨O9, kvs9, vC9, nC9, cells9, tn9, tt9, vX9, nX9, codes9⟩ := c); (obtain ⟨hO9, k19, k29, k39, l19, i19, l29, t19, i29, l39, m19⟩ := hP9); (try dsimp only at hO9 k19 k29 k39 l19 i19 l29 t19 i29 l39 m19); (try dsimp only [LSled] at N'); (try simp only [List.cons_append] at N'); (try dsimp only [LSled, List.map] at hoff9); (try k_fold)))))
  k_with "pyIter ref" => (k_here; (with_reducible show wpAny _ _ (pyIter (Value.ref _)) (fun it s₂ => TurnsAt _ _ _ _ _ _ _ _ _ it s₂) _ _); (rename Fr _ _ _ _ => lF'); (rename News _ _ _ _ => lN'); (with_unfolding_all refine iter_tupTurns (lo := _) (vs := [Value.bool false, Value.bool true]) (by rfl) lF' lN' (by k_mem) (by rfl) (by rfl) ?_); clear lF'; intro i' l1; (try k_lt l1))
  k_with "storeName" => (refine' storeX_C ?sF ?sN ?sc ?sU ?sd ?_ ?sa ?sb; (case sa => rfl); (case sb => rfl); (case sF => k_asm); (case sN => k_asm); (case sc => rfl); (case sU => k_updF); (case sd => k_asm); k_whole; intro h' o' F' N' d'; (try dsimp only at N'); (try k_sweep))
  k_steps)
end
end
end
end
end
end
end Mine
theorem PySem.Challenge.cw_on0368_01_holds : PySem.Challenge.rw_on0368_01.Holds := by
  exact Mine.law_holds
