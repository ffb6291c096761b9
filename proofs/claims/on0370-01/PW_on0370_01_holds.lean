import PyProof.Rows.All
import Wide.All
import OpenK.AllK
import Wide.FinOn
import Lean
import PySem.Challenge.RW_on0370_01
open Lean PySem PySem.W PySem.Calls PyProof.Rows
set_option Elab.async false
set_option maxRecDepth 100000
set_option linter.all false
set_option compiler.extract_closed false
set_option genSizeOf false
set_option genInjectivity false
namespace Mine
local macro_rules | `(tactic| wtm_at "a") => `(tactic| simp +arith only)
local macro_rules | `(tactic| wtm_at "d") => `(tactic| decide +kernel)
local macro_rules | `(tactic| wtm_at "p") => `(tactic| simp +arith only [Nat.reducePow])
theorem nb {a b : Nat} (h : Nat.ble a b = true) : a ≤ b := Nat.le_of_ble_eq_true h
theorem lin1 {a b l r : Nat} (h : l ≤ r) (k : a + r ≤ b + l) : a ≤ b := Nat.le_of_add_le_add_right (Nat.le_trans k (Nat.add_le_add_left h b))
theorem lin2 {a b l r l2 r2 : Nat} (h : l ≤ r) (h2 : l2 ≤ r2) (k : a + (r + r2) ≤ b + (l + l2)) : a ≤ b := lin1 (Nat.add_le_add h h2) k
theorem lin3 {a b l r l2 r2 l3 r3 : Nat} (h : l ≤ r) (h2 : l2 ≤ r2) (h3 : l3 ≤ r3) (k : a + (r + (r2 + r3)) ≤ b + (l + (l2 + l3))) : a ≤ b := lin2 h (Nat.add_le_add h2 h3) k
theorem lin4 {a b l r l2 r2 l3 r3 l4 r4 : Nat} (h : l ≤ r) (h2 : l2 ≤ r2) (h3 : l3 ≤ r3) (h4 : l4 ≤ r4) (k : a + (r + (r2 + (r3 + r4))) ≤ b + (l + (l2 + (l3 + l4)))) : a ≤ b := lin3 h h2 (Nat.add_le_add h3 h4) k
theorem lin5 {a b l r l2 r2 l3 r3 l4 r4 l5 r5 : Nat} (h : l ≤ r) (h2 : l2 ≤ r2) (h3 : l3 ≤ r3) (h4 : l4 ≤ r4) (h5 : l5 ≤ r5) (k : a + (r + (r2 + (r3 + (r4 + r5)))) ≤ b + (l + (l2 + (l3 + (l4 + l5))))) : a ≤ b := lin4 h h2 h3 (Nat.add_le_add h4 h5) k
theorem lin6 {a b l r l2 r2 l3 r3 l4 r4 l5 r5 l6 r6 : Nat} (h : l ≤ r) (h2 : l2 ≤ r2) (h3 : l3 ≤ r3) (h4 : l4 ≤ r4) (h5 : l5 ≤ r5) (h6 : l6 ≤ r6) (k : a + (r + (r2 + (r3 + (r4 + (r5 + r6))))) ≤ b + (l + (l2 + (l3 + (l4 + (l5 + l6)))))) : a ≤ b := lin5 h h2 h3 h4 (Nat.add_le_add h5 h6) k
theorem linF1 {l r : Nat} (h : l ≤ r) (k : r + 1 ≤ l) : False := Nat.not_le.mpr k h
theorem linF2 {l r l2 r2 : Nat} (h : l ≤ r) (h2 : l2 ≤ r2) (k : r + r2 + 1 ≤ l + l2) : False := linF1 (Nat.add_le_add h h2) k
theorem linF3 {l r l2 r2 l3 r3 : Nat} (h : l ≤ r) (h2 : l2 ≤ r2) (h3 : l3 ≤ r3) (k : r + (r2 + r3) + 1 ≤ l + (l2 + l3)) : False := linF2 h (Nat.add_le_add h2 h3) k
theorem linF4 {l r l2 r2 l3 r3 l4 r4 : Nat} (h : l ≤ r) (h2 : l2 ≤ r2) (h3 : l3 ≤ r3) (h4 : l4 ≤ r4) (k : r + (r2 + (r3 + r4)) + 1 ≤ l + (l2 + (l3 + l4))) : False := linF3 h h2 (Nat.add_le_add h3 h4) k
theorem linF5 {l r l2 r2 l3 r3 l4 r4 l5 r5 : Nat} (h : l ≤ r) (h2 : l2 ≤ r2) (h3 : l3 ≤ r3) (h4 : l4 ≤ r4) (h5 : l5 ≤ r5) (k : r + (r2 + (r3 + (r4 + r5))) + 1 ≤ l + (l2 + (l3 + (l4 + l5)))) : False := linF4 h h2 h3 (Nat.add_le_add h4 h5) k
theorem linF6 {l r l2 r2 l3 r3 l4 r4 l5 r5 l6 r6 : Nat} (h : l ≤ r) (h2 : l2 ≤ r2) (h3 : l3 ≤ r3) (h4 : l4 ≤ r4) (h5 : l5 ≤ r5) (h6 : l6 ≤ r6) (k : r + (r2 + (r3 + (r4 + (r5 + r6)))) + 1 ≤ l + (l2 + (l3 + (l4 + (l5 + l6))))) : False := linF5 h h2 h3 h4 (Nat.add_le_add h5 h6) k
theorem linI1 {a b l r : Int} (h : l ≤ r) (k : a + r ≤ b + l) : a ≤ b := Int.le_of_add_le_add_right (Int.le_trans k (Int.add_le_add_left h b))
theorem linI2 {a b l r l2 r2 : Int} (h : l ≤ r) (h2 : l2 ≤ r2) (k : a + (r + r2) ≤ b + (l + l2)) : a ≤ b := linI1 (Int.add_le_add h h2) k
theorem linI3 {a b l r l2 r2 l3 r3 : Int} (h : l ≤ r) (h2 : l2 ≤ r2) (h3 : l3 ≤ r3) (k : a + (r + (r2 + r3)) ≤ b + (l + (l2 + l3))) : a ≤ b := linI2 h (Int.add_le_add h2 h3) k
theorem linFI1 {l r : Int} (h : l ≤ r) (k : r + 1 ≤ l) : False := Int.not_le.mpr k h
theorem linFI2 {l r l2 r2 : Int} (h : l ≤ r) (h2 : l2 ≤ r2) (k : r + r2 + 1 ≤ l + l2) : False := linFI1 (Int.add_le_add h h2) k
noncomputable def holdIds : List String := ["bytearray.__contains__", "bytearray.__mod__", "bytearray.__rmod__", "_struct.pack_into.held", "bytearray.find.held"] ++ PySem.Builtin.Bytes.decodersThatHold
noncomputable def noHold : Code → Bool
  | .builtin id _ => !holdIds.contains id
  | _ => true
noncomputable def NoDB (Γ : Ctx) : Prop := ∀ x ∈ Γ.below, noHold x.1 = true
noncomputable def NoD (Γ : Ctx) : Prop := noHold Γ.code = true ∧ NoDB Γ
theorem NoD.enter {Γ : Ctx} (h : NoD Γ) (c : Code) (hd : Option Value) (p : Pos) : NoDB (Γ.enter c hd p) := fun x hx => by
  rcases List.mem_cons.mp (show x ∈ (Γ.code, p) :: Γ.below from hx) with rfl | hx
  · exact h.1
  · exact h.2 x hx
noncomputable def WG {α : Type} (M : Model) (A : Around) (t : Sem α) (Q : α → Shared → Prop) (s : Shared) : Prop :=
  ∀ Γ p, Γ.In A → NoD Γ → Sem.wp M Γ t (fun a _ s' => Q a s') (fun _ _ _ => False) p s
noncomputable def CG (M : Model) (A : Around) (c : Code) (R : Result → Shared → Prop) (s : Shared) : Prop :=
  ∀ Γ p, Γ.code = c → Γ.Below A → NoDB Γ → wpCode M Γ R p s
section
variable {α β : Type} {M : Model} {A : Around} {s : Shared}
theorem WG.any {t : Sem α} {Q : α → Shared → Prop} (h : wpAny M A t Q (fun _ _ => False) s) : WG M A t Q s := fun Γ p hΓ _ => h Γ p hΓ
theorem WG.mono {t : Sem α} {Q Q' : α → Shared → Prop} (h : WG M A t Q s) (hQ : ∀ a s, Q a s → Q' a s) : WG M A t Q' s :=
  fun Γ p hΓ hN => Sem.wp_mono M Γ t (fun a _ s => hQ a s) (fun _ _ _ e => e) p s (h Γ p hΓ hN)
theorem WG.pure {a : α} {Q : α → Shared → Prop} (h : Q a s) : WG M A (Pure.pure a) Q s := fun _ _ _ _ => h
theorem WG.bind {m : Sem α} {f : α → Sem β} {Q : β → Shared → Prop} (h : WG M A m (fun a s' => WG M A (f a) Q s') s) : WG M A (m >>= f) Q s := fun Γ p hΓ hN => by
  rw [Sem.wp_bind']
  exact Sem.wp_mono M Γ m (fun a p' s' h' => h' Γ p' hΓ hN) (fun _ _ _ h' => h') p s (h Γ p hΓ hN)
theorem WG.ifF {c : Bool} {a b : Sem α} {Q : α → Shared → Prop} (hc : c = false) (h : WG M A b Q s) : WG M A (if c = true then a else b) Q s := by subst hc; exact h
theorem WG.first {m : Sem α} {f : α → Sem β} {Q : β → Shared → Prop} (h : wpAny M A m (fun a s' => WG M A (f a) Q s') (fun _ _ => False) s) : WG M A (m >>= f) Q s := .bind (.any h)
theorem WG.onRaise {m : Sem α} {k : Value → Sem Unit} {Q : α → Shared → Prop} (h : WG M A m Q s) : WG M A (m.onRaise k) Q s := fun Γ p hΓ hN => by
  rw [Sem.wp_onRaise]
  exact Sem.wp_mono M Γ m (fun _ _ _ h' => h') (fun e p' s' h' => h'.elim) p s (h Γ p hΓ hN)
theorem WG.holding {vs : List Value} {m : Sem α} {Q : α → Shared → Prop} (h : WG M A m Q s) : WG M A (PySem.holding vs m) Q s :=
  fun Γ p hΓ hN => by rw [Sem.wp_holding]; exact h Γ p hΓ hN
theorem WG.keep {vs : List Value} {m : Sem α} {Q : α → Shared → Prop} (h : WG M A m Q s) : WG M A (m.keep vs) Q s :=
  fun Γ p hΓ hN => by rw [Sem.wp_keep]; exact h Γ p hΓ hN
theorem WG.standAt {pos : Pos} {Q : Unit → Shared → Prop} (h : Q () s) : WG M A (PySem.standAt pos) Q s := fun _ _ _ _ => h
theorem WG.point {Q : Unit → Shared → Prop} (h : Q () s) : WG M A PySem.point Q s := fun _ _ _ _ => h
theorem WG.run {c : Code} {h : Option Value} {Q : Flow → Shared → Prop} (hc : CG M (A.mark h) c (fun r s' => match r with | .ok f => Q f s' | .error _ => False) s) (hnb : h ≠ some byPass := by intro x; cases x) :
    WG M A (PySem.run c h) Q s := fun Γ p hΓ hN => by rw [Sem.wp_run]; exact hc _ p rfl (hΓ.enter c h p hnb) (hN.enter c h p)
theorem WG.runOwn {c : Code} {env : Env} {h : Option Value} {Q : Flow → Shared → Prop} (hc : CG M (A.mark h) c (fun r s' => match r with | .ok f => Q f s' | .error _ => False) s) (hnb : h ≠ some byPass := by intro x; cases x) :
    WG M A (PySem.runOwn c env h) Q s := by
  unfold PySem.runOwn
  exact .onRaise (.run hc hnb)
theorem WG.runValue {c : Code} {Q : Value → Shared → Prop} (hc : CG M A c (fun r s' => match r with | .ok (.ret v) => Q v s' | _ => False) s) : WG M A (PySem.runValue c) Q s := fun Γ p hΓ hN => by
  rw [Sem.wp_runValue]
  refine wpCode_mono (fun r s' z => ?_) (hc _ p rfl (hΓ.enter c none p (by intro x; cases x)) (hN.enter c none p))
  cases r with
  | error e => exact z
  | ok f => cases f <;> exact z
theorem WG.call {f : Value} {pos : List Value} {kw : List (Str × Value)} {Q : Value → Shared → Prop} (hc : CG M A (.call f ⟨pos, kw⟩) (fun r s' => match r with | .ok (.ret v) => Q v s' | _ => False) s) : WG M A (PySem.call f pos kw) Q s := .runValue hc
theorem CG.tree {c : Code} {R : Result → Shared → Prop} (hn : noHold c = true)
    (h : WG M (A.under c) (M.den c) (fun fin s' => match fin with | .done f => R (.ok f) s' | .again c' => c'.quiet = true ∧ CG M A c' R s') s) : CG M A c R s := fun Γ p hc hΓ hN => by
  rw [wpCode_iff_wp, hc]
  refine Sem.wp_mono M Γ _ (fun fin p' s' h' => ?_) (fun _ _ _ h' => h'.elim) p s (h Γ p (hc ▸ hΓ.in) ⟨hc ▸ hn, hN⟩)
  cases fin with
  | done f => exact h'
  | again c' => exact ⟨h'.1, h'.2 (Γ.goto c') p' rfl (hΓ.goto c') hN⟩
theorem CG.loop {c : Code} {R : Result → Shared → Prop} (hn : noHold c = true) (hq : c.quiet = true) (I : Nat → Shared → Prop)
    (turn : ∀ n s, I n s → WG M (A.under c) (M.den c) (fun fin s' => match fin with
        | .done f => R (.ok f) s'
        | .again c' => (c' = c ∧ ∃ m, m < n ∧ I m s') ∨ (c'.quiet = true ∧ CG M A c' R s')) s)
    (n : Nat) (h : I n s) : CG M A c R s := by
  induction n using Nat.strongRecOn generalizing s with
  | ind n ih =>
    refine CG.tree hn (WG.mono (turn n s h) (fun fin s' hf => ?_))
    cases fin with
    | done f => exact hf
    | again c' =>
      rcases hf with ⟨rfl, m, hm, hI⟩ | hf
      · exact ⟨hq, ih m hm hI⟩
      · exact hf
end
open PySem PySem.W PySem.Calls PyProof.Rows
set_option maxHeartbeats 0
noncomputable def runT (tb : String → Option Builtin) (p : Program) (w : World) (n₀ : Nat) (ann : Option Value) : Nat → SharedT → Thread → Option SharedT
  | 0, _, _ => none
  | n + 1, s, t => match through t with
    | true => some s
    | false => match stepOk n₀ ann t with
      | false => none
      | true => match stepT (denote tb) p w s t with
        | some (s', t') => runT tb p w n₀ ann n s' t'
        | none => none
theorem runT_spec {tb : String → Option Builtin} {p : Program} {w : World} {n₀ : Nat} {ann : Option Value} : ∀ {n : Nat} {s s' : SharedT} {t : Thread},
    runT tb p w n₀ ann n s t = some s' → topRun tb p w n₀ ann n s.abs t = some s'.abs
  | 0, _, _, _, h => by cases h
  | n + 1, s, s', t, h => by
    unfold runT at h
    unfold topRun
    cases ht : through t with
    | true => rw [ht] at h; cases h; rfl
    | false =>
      rw [ht] at h
      cases hk : stepOk n₀ ann t with
      | false => rw [hk] at h; cases h
      | true =>
        rw [hk] at h
        cases hs : stepT (denote tb) p w s t with
        | none => rw [hs] at h; cases h
        | some r => obtain ⟨s₂, t₂⟩ := r; rw [hs] at h; rw [stepT_spec hs]; exact runT_spec h
noncomputable def insAll : BT → Nat → List Obj → BT
  | t, _, [] => t
  | t, n, o :: r => insAll (t.ins n o) (n + 1) r
noncomputable def looksAll (p q : Program) (loose : List Str) (Xt : Shared → Bool) {α : Type} (Yf : Shared → α) (H₀ : Heap) (s : Shared) :=
  ((staticsOk (importedModules p.main.body) H₀ s.heap && namesBound p s.heap && gensDone s && laidKept H₀ s.heap), openSeen q loose (importedModules p.main.body) Xt true s, Yf s)
theorem left_of_tree {p q : Program} {loose : List Str} {Xt : Shared → Bool} {α : Type} {Yf : Shared → α} {Ya : World → α} {N : Nat} {H₀ : Params → Heap} {T₀ : Params → BT} {n₀ : Nat} {life : Life} {d₀ : Drawn} {k₀ : Nat} {ann : Option Value}
    (open_ : ∀ w : World, (fencedOpening treeTable p w N).map (fun s => (s.heap, s.gens, s.drawn, s.toks)) = some (H₀ w.params, Array.mk [], d₀, k₀))
    (size : ∀ P, ((H₀ P).isNs mainGlobals, (H₀ P).objs.size, (H₀ P).nsMap mainGlobals "__annotations__") = (true, n₀, ann))
    (tree : ∀ P, absHeap (T₀ P) n₀ life = H₀ P)
    (run : ∀ (w : World) (os : OsState), (runT treeTable p w n₀ ann N ⟨T₀ w.params, n₀, life, Array.mk [], d₀, k₀, os⟩ (topStub p)).map (fun s => looksAll p q loose Xt Yf (H₀ w.params) s.abs) = some (true, openGood q loose, Ya w)) :
    LeftO p q loose Xt Yf Ya N := fun w => by
  obtain ⟨⟨h, gs, d, k, os⟩, e, e'⟩ := Option.map_eq_some_iff.mp (open_ w)
  obtain ⟨rfl, rfl, rfl, rfl⟩ : h = H₀ w.params ∧ gs = Array.mk [] ∧ d = d₀ ∧ k = k₀ := by simpa using e'
  obtain ⟨z1, z2, z3⟩ : _ ∧ _ ∧ _ := by simpa only [Prod.mk.injEq] using size w.params
  obtain ⟨sT, hr, hl⟩ := Option.map_eq_some_iff.mp (run w os)
  have r := runT_spec hr
  unfold looksAll at hl
  obtain ⟨l1, l2, l3⟩ : _ ∧ _ ∧ _ := by simpa only [Prod.mk.injEq] using hl
  have t : topFrom treeTable p w N ⟨H₀ w.params, Array.mk [], d, k, os⟩ = some sT.abs := by
    unfold topFrom
    dsimp only
    rw [z1, z2, z3]
    have r' : topRun treeTable p w n₀ ann N ⟨H₀ w.params, Array.mk [], d, k, os⟩ (topStub p) = some sT.abs := by
      have := r
      unfold SharedT.abs at this
      dsimp only at this
      rw [tree w.params] at this
      exact this
    show ((topRun treeTable p w n₀ ann N ⟨H₀ w.params, Array.mk [], d, k, os⟩ (topStub p)).bind _) = _
    rw [r']
    show (match staticsOk (importedModules p.main.body) (H₀ w.params) sT.abs.heap && namesBound p sT.abs.heap && gensDone sT.abs && laidKept (H₀ w.params) sT.abs.heap with | true => _ | false => _) = _
    rw [l1]
  unfold openEnds
  rw [e]
  show (topFrom treeTable p w N _).map _ = _
  rw [t]
  exact congrArg some (Prod.ext l2 l3)
theorem caller_noD : NoD (⟨.builtin "claim.caller" {}, none, none, [], none⟩ : Ctx) := ⟨by decide +kernel, fun x hx => nomatch hx⟩
noncomputable abbrev WalkWG (q : Program) (loose : List Str) (XP : (Str → Option Value) → Heap → Prop) (YP : World → Heap → Prop) (r : RowW) (d : DefRec) (kwd : List (Str × PySem.Expr)) : Prop :=
  ∀ (w : World) (s₀ s₁ : Shared) (mg mb : Str → Option Value), Ground q loose r.records XP w s₀ mg mb s₁.heap → YP w s₁.heap → ∀ (a : Addr) (o : Obj) (pm cd doc dV kV : Value), s₁.heap.get? a = some o →
    o.data = .func { docDef d.name d.params d.body d.scope pm cd doc with defaults := dV, kwdefaults := kV } → s₁.heap.CodeRec cd d.name → Dflts mg s₁.heap d.params kwd dV kV → mg d.name = some (.ref a) → s₁.gens = #[] →
    ∀ (args : List WData) (vals : List Value) (as : List Addr), r.claim.pre args = true → WData.layableAll args = true → ReadsAllW r.records (classAt s₀.heap) s₁.heap vals args as → WellAll w.params s₁.heap vals args → (∀ a ∈ as, (a == sysModules) = false) →
      WG (model r.prog w) callerA (PySem.call (.ref a) vals) (fun v s' => GoodWG r.claim (classAt s₀.heap) (ExcName.means s₀.heap) args s₁ (.ok (.ret v)) s') s₁
inductive RunTo (prog : Program) (w : World) (t : Sem PySem.Fin) (s : Shared) (R : Flow → Shared → Prop) : Prop
  | mk (n : Nat) (fl : Flow) (s' s'' : Shared) (h1 : runN (denote table) prog w n s ⟨t, .builtin "claim.caller" {}, default, []⟩ = .halted (outcomeOf (.ok fl)) s') (h2 : schedN (denote table) prog w n (.single s ⟨t, .builtin "claim.caller" {}, default, []⟩) = .halted (outcomeOf (.ok fl)) s') (h3 : s'.forget = s''.forget) (h4 : R fl s'')
theorem wg_ends {prog : Program} {w : World} {t : Sem PySem.Fin} {s : Shared} {R : Flow → Shared → Prop} (hreg : s.asleep) (h : WG (model prog w) callerA t (fun fin s' => ∃ fl, fin = .done fl ∧ R fl s' ∧ leftWithCleanup s'.gens = false) s) : RunTo prog w t s R := by
  obtain ⟨n, r, s₁, s₂, hs, hn, hfo, hR⟩ := wp_halts_full (M := model prog w) (R := fun r s => match r with | .ok fl => R fl s | .error _ => False) (c := .builtin "claim.caller" {}) (p := default) hreg (by
    refine Sem.wp_mono _ _ t (fun fin p' s' h' => ?_) (fun _ _ _ h' => h'.elim) default s (h _ default caller_in caller_noD)
    obtain ⟨fl, rfl, a, b⟩ := h'
    exact ⟨a, b⟩)
  cases r with
  | error e => exact hR.elim
  | ok fl => exact ⟨n, fl, s₂, s₁, hn, hs, hfo, hR⟩
structure HR (r : OpenRow) (s s₁ : Shared) (args : List WData) (vs : List Value) (fl : Flow) (s' : Shared) : Prop where
  e : r.toRowW.claim.Ends s args vs s₁ (.ok fl) s'
  os : s'.os = s.os
  k : r.writes = true → namesKept r.prog r.keeps s.heap s'.heap ∧ ∀ x ∈ r.records, ∀ a, classAt s.heap x.1 = some a → recordClass s'.heap a x.1 (x.2.map (·.1)) = true
theorem exE7 {A B C D E F H : Type} {P : A → B → C → D → E → F → H → Prop} {Q : Prop} (h : ∃ a b c d e f g, P a b c d e f g) (k : ∀ a b c d e f g, P a b c d e f g → Q) : Q := by
  obtain ⟨a, b, c, d, e, f, g, h⟩ := h
  exact k a b c d e f g h
theorem exI2 {A B : Type} {P : A → B → Prop} (a : A) (b : B) (h : P a b) : ∃ a b, P a b := ⟨a, b, h⟩
theorem exI3 {A B C : Type} {P : A → B → C → Prop} (a : A) (b : B) (c : C) (h : P a b c) : ∃ a b c, P a b c := ⟨a, b, c, h⟩
theorem open_noD {r : OpenRow} {q : Program} {loose : List Str} {Xt : Shared → Bool} {XP : (Str → Option Value) → Heap → Prop} {α : Type} {Yf : Shared → α} {Ya : World → α} {YP : World → Heap → Prop} {d : DefRec} {kwd : List (Str × PySem.Expr)} {N : Nat}
    (left : LeftO r.prog q loose Xt Yf Ya N) (hY : ∀ w s, Yf s = Ya w → YP w s.heap) (hYk : ∀ w h h', YP w h → (∀ b o, h.get? b = some o → h'.get? b = some o) → YP w h')
    (hX : ∀ s, Xt s = true → XP (s.heap.nsMap mainGlobals) s.heap) (hXk : ∀ mg h h', XP mg h → (∀ b o, h.get? b = some o → h'.get? b = some o) → XP mg h')
    (hdef : defOf q r.name = some (d, kwd)) (hp : r.prog.theDef r.name = some (d.params, d.body, d.scope)) (hk : kwWritten? d.params.kwonlyargs d.params.kw_defaults = some kwd) (hRf : ∀ s, Xt s = true → RecFacts r.records s.heap) (hwr : (!r.writes || r.records.isEmpty) = true)
    (k1 : r.wellSaid = true) (ok : (chainsOk q && opensWell r.prog && (frees r.toRowW && r.within.isEmpty)) = true) (hb : r.prog.bare) (hw : r.toRowW.promised)
    (call : WalkWG q loose XP YP r.toRowW d kwd) : r.Holds := by
  rw [Bool.and_eq_true, Bool.and_eq_true, Bool.and_eq_true] at ok
  obtain ⟨⟨hch, o1⟩, k5, k6⟩ := ok
  obtain ⟨hsame, hu, ha, hap, hm⟩ := frees_parts k5
  have hwi : r.toRowW.claim.within = [] := List.isEmpty_iff.mp k6
  refine ⟨k1, hw, ⟨hb, o1, by show r.makers.map _ = []; rw [hm]; rfl⟩, hw.witness, fun w => ?_⟩
  have B := left.behind (XP := fun mg h => XP mg h ∧ RecFacts r.records h) (fun s hs => ⟨hX s hs, hRf s hs⟩) hch w
  refine ⟨B.1, fun s' hs' => ?_⟩
  refine (B.2 s' hs').elim fun s₀ h0 => ?_
  refine h0.2.2.elim fun s h9 => ?_
  have hT := h9.1
  have hg := h9.2.2.2.1
  have G0 := h9.2.2.2.2.1
  have RF := G0.X.2
  have G1 : Ground q loose [] XP w s (s.heap.nsMap mainGlobals) (s.heap.nsMap builtinsNs) s.heap := ⟨G0.T, G0.B, G0.D, G0.TE, G0.TD, G0.W, G0.X.1, G0.cls, G0.has, G0.apart, G0.once, G0.K⟩
  refine ⟨s₀, h0.1, h0.2.1, s, hT, fun n hn => ?_, RF.1, RF.2.1, fun args hpre hlay ord hord => ?_⟩
  · obtain rfl : n = r.name := by split at hn <;> first | exact List.mem_singleton.mp hn | exact (nomatch hn) | exact Option.some.inj hn | exact (Option.some.inj hn).symm
    exact pinned_of_view hg G1 hdef hp hk
  have hgs : s.gens = #[] := Array.eq_empty_of_size_eq_zero (beq_iff_eq.mp h9.2.2.1)
  have G := RF.ground G1
  obtain ⟨⟨vs, s₁⟩, hlaid⟩ := Option.isSome_iff_exists.mp (layAllW_isSome (P := w.params) (ord := ord) G.has args r.args s (pre_splitW hpre).1)
  have keeps := layAllW_keeps _ _ _ hlaid
  have hal := layAllW_rest _ _ _ hlaid
  obtain ⟨as, hrd, hin, hold⟩ := reads_layAllW hord _ _ _ hlaid hlay s₁.heap (fun _ _ e => e)
  have L : Laid r.records w s s₁ args vs as := ⟨⟨ord, hord, hlaid⟩, hrd, hin, hold, keeps, hal.1.trans hgs, hal.2.2.1⟩
  have G₁ := G.keeps hXk keeps
  refine exE7 (G₁.fn hdef) fun a o pm cd doc dV kV hh => ?_
  have W := call w s s₁ _ _ G₁ (hYk _ _ _ (hY w s h9.2.2.2.2.2) keeps) a o pm cd doc dV kV hh.2.1 hh.2.2.1 hh.2.2.2.1 hh.2.2.2.2 (defOf_name hdef ▸ hh.1) L.gens args vs as hpre hlay L.reads L.well (L.low G.low)
  have hi := ident_freeW hu ha hap
  have T : WG (model r.prog w) callerA (do match ← nsGet mainNs r.name with
      | some f => do ret (← PySem.call f vs)
      | none => unsupported "claim.caller:no-such-global")
      (fun fin s' => ∃ fl, fin = .done fl ∧ HR r s s₁ args vs fl s' ∧ leftWithCleanup s'.gens = false) s₁ := by
    refine .first (wpAny_nsGet G₁.T.g ?_)
    rw [hh.1]
    refine .bind (W.mono fun v s' g => .pure ⟨_, rfl, ?_⟩)
    have z := g.laid (c := r.toRowW.claim) hsame hwi hi L
    exact ⟨⟨z.1, z.2.1, fun q => ⟨namesKept_of hT hg r.keeps keeps g.2.1.old, noTable hwr q⟩⟩, leftWithCleanup_false_of_bare z.2.2⟩
  obtain ⟨k, fl, s3, s2, hrun, hsched, hfo, hE, hos, hkp⟩ := wg_ends (R := HR r s s₁ args vs) (Shared.asleep_of_life hal.2.2.2 h9.2.1) T
  obtain ⟨eh, _, _, eo, _⟩ := Shared.forget_eq hfo
  have hE := hE.congr eh
  have hlife : s3.heap.life = s.heap.life := (runN_life _ _ _ hrun).trans hal.2.2.2
  refine exI2 vs s₁ ⟨hlaid, exI3 k _ s3 ⟨hsched, ?_, (fun _ i x hx => by rw [hgs] at hx; cases hx), (by rw [eh]; exact hkp), by rw [hlife], Shared.rest_eq (eo.trans hos)⟩⟩
  refine hE.elim (fun h => ?_) (fun h => ?_)
  · refine h.elim fun v h => ?_
    cases h.1
    refine .inl ⟨v, rfl, h.2.1, h.2.2.1, h.2.2.2.1, fun b o y _ => h.2.2.2.2.1 b o y, h.2.2.2.2.2⟩
  · refine h.elim fun e h => h.elim fun ob h => h.elim fun cls h => ?_
    cases h.1
noncomputable abbrev qv : Program := view PySem.Challenge.pw_on0370_01 [46]
noncomputable def loose : List Str := [.ofString "MAX_CODE", .ofString "UniError", .ofString "BadTable", .ofString "range_are_like", .ofString "range_rows", .ofString "TRIE_MARK", .ofString "TRIE_MOST_BITS", .ofString "TRIE_SUM_BASE", .ofString "TRIE_SUM_SIZE", .ofString "TRIE_MOST_PIECES", .ofString "CODES", .ofString "trie_add", .ofString "trie_value_number", .ofString "trie_value_runs", .ofString "TrieRow", .ofString "TrieStage", .ofString "trie_check_bits", .ofString "CodeTrie", .ofString "trie_put_number", .ofString "trie_put_runs", .ofString "trie_sum", .ofString "trie_check_order", .ofString "trie_octets", .ofString "TrieReader", .ofString "_law_bits", .ofString "_law_worths", .ofString "_law_draw", .ofString "_law_number", .ofString "_law_row", .ofString "_law_stage", .ofString "_law_values", .ofString "_law_body", .ofString "_law_sealed", .ofString "_law_table", .ofString "_law_at", .ofString "_law_worth", .ofString "_law_with", .ofString "_law_faulty", .ofString "_law_same", .ofString "_law_heard", .ofString "_law_is_read", .ofString "_law_numbers_right"]
theorem opens : ∀ w : World, (fencedOpening treeTable PySem.Challenge.pw_on0370_01 w 6448).map (fun s => (s.heap, s.gens, s.drawn, s.toks)) = some (boot_heap w.params, Array.mk [], boot_drawn, boot_toks) :=
  boot_open rfl (by decide) (fun _ => rfl)
noncomputable def bootT (P : Params) : BT := insAll .nil 0 (boot_heap P).objs.toList
theorem boot_tree : ∀ P, absHeap (bootT P) 11 ({} : Life) = boot_heap P := fun P => by kernel_rfl
theorem boot_size : ∀ P, ((boot_heap P).isNs mainGlobals, (boot_heap P).objs.size, (boot_heap P).nsMap mainGlobals "__annotations__") = (true, 11, some (.ref 6)) := fun P => by kernel_rfl
noncomputable abbrev Xt0 : Shared → Bool := fun s => xlAt qv [] s && recOk (RowW.records (OpenRow.toRowW (OpenLaw.row PySem.Challenge.rw_on0370_01))) s
theorem xl0 (s : Shared) (e : Xt0 s = true) : XL qv [] (s.heap.nsMap mainGlobals) s.heap := xl_of s (Bool.and_eq_true_iff.mp e).1
theorem rec0 (s : Shared) (e : Xt0 s = true) : RecFacts (RowW.records (OpenRow.toRowW (OpenLaw.row PySem.Challenge.rw_on0370_01))) s.heap := recFacts_of (Bool.and_eq_true_iff.mp e).2
theorem said : OpenLaw.wellSaid PySem.Challenge.rw_on0370_01 = true := by kernel_rfl
local macro_rules | `(tactic| o_law) => `(tactic| refine holds_law said fun _ => ?_)
local macro_rules | `(tactic| o_head $H:term) => `(tactic| (
  refine open_noD (q := qv) (loose := loose) (Xt := Xt0) (XP := XL qv []) (Yf := Hook.obs $H) (Ya := Hook.val $H) (YP := Hook.says $H) (N := 6448) ?hl (Hook.of $H) (Hook.keeps $H) xl0 XL.keeps (by rfl) (by rfl) (by rfl) rec0 (by rfl) (by first | assumption | decide +kernel) (by wtm_at "d") ⟨rfl, rfl, rfl, rfl, rfl, by decide +kernel⟩ ?hw ?hc
  case hl => exact left_of_tree (life := {}) opens boot_size boot_tree (fun w os => by kernel_rfl)))
open_top hd for PySem.Challenge.rw_on0370_01
noncomputable abbrev P : Program := PySem.Challenge.pw_on0370_01
noncomputable abbrev KK (w : World) : Frag := hd.heap_1 w.params
noncomputable abbrev Zt := Addr → Obj → Prop
structure Gh where
  B : Heap
  h₀ : Heap
  ft : List Addr
  fr : List Addr
  Z₀ : Zt
  L : Addr
  nm : List Str
  gn : List Str
  gens : Array GenState
  drawn : Drawn
  os : OsState
noncomputable def look : List Str → List (Option Value) → Str → Option Value
  | n :: ns, v :: vs, x => if x = n then v else look ns vs x
  | _, _, _ => none
theorem look_get {ns : List Str} {vs : List (Option Value)} {i : Nat} {x : Str} {v : Value} (nd : ns.Nodup) (h : ns[i]? = some x) (h' : vs[i]? = some (some v)) : look ns vs x = some v := by
  induction ns generalizing vs i with
  | nil => cases h
  | cons n ns ih =>
    cases vs with
    | nil => cases h'
    | cons u vs =>
      cases i with
      | zero => cases h; cases h'; exact if_pos rfl
      | succ i => exact (if_neg fun e : x = n => (List.nodup_cons.mp nd).1 (e ▸ List.mem_of_getElem? h)).trans (ih (List.nodup_cons.mp nd).2 h h')
theorem look_set {ns : List Str} {vs : List (Option Value)} {i : Nat} {x : Str} {v : Option Value} (nd : ns.Nodup) (hl : vs.length = ns.length) (h : ns[i]? = some x) : (fun y => if y = x then v else look ns vs y) = look ns (vs.set i v) := by
  induction ns generalizing vs i with
  | nil => cases h
  | cons n ns ih =>
    cases vs with
    | nil => cases hl
    | cons u vs =>
      funext y
      cases i with
      | zero =>
        cases h
        show (if y = x then v else if y = x then u else look ns vs y) = if y = x then v else look ns vs y
        by_cases q : y = x
        · rw [if_pos q, if_pos q]
        · rw [if_neg q, if_neg q, if_neg q]
      | succ i =>
        have hn : x ≠ n := fun e => (List.nodup_cons.mp nd).1 ((show x = n from e) ▸ List.mem_of_getElem? h)
        show (if y = x then v else if y = n then u else look ns vs y) = if y = n then u else look ns (vs.set i v) y
        rw [← ih (List.nodup_cons.mp nd).2 (Nat.succ.inj hl) h]
        by_cases q : y = n
        · rw [if_pos q, if_pos q, if_neg fun e : y = x => hn (e.symm.trans q)]
        · rw [if_neg q, if_neg q]
inductive At : List Str → List (Option Value) → Str → Value → Prop
  | here {x : Str} {v : Value} {ns : List Str} {vs : List (Option Value)} : At (x :: ns) (some v :: vs) x v
  | there {x n : Str} {v : Value} {u : Option Value} {ns : List Str} {vs : List (Option Value)} : At ns vs x v → At (n :: ns) (u :: vs) x v
theorem At.get {x : Str} {v : Value} {ns : List Str} {vs : List (Option Value)} (h : At ns vs x v) : ∃ i : Nat, ns[i]? = some x ∧ vs[i]? = some (some v) := by
  induction h with
  | here => exact ⟨0, rfl, rfl⟩
  | there _ ih => obtain ⟨i, a, b⟩ := ih; exact ⟨i + 1, a, b⟩
inductive Put : List Str → List (Option Value) → Str → Value → List (Option Value) → Prop
  | here {x : Str} {v : Value} {u : Option Value} {ns : List Str} {vs : List (Option Value)} : Put (x :: ns) (u :: vs) x v (some v :: vs)
  | there {x n : Str} {v : Value} {u : Option Value} {ns : List Str} {vs vs' : List (Option Value)} : Put ns vs x v vs' → Put (n :: ns) (u :: vs) x v (u :: vs')
theorem Put.get {x : Str} {v : Value} {ns : List Str} {vs vs' : List (Option Value)} (h : Put ns vs x v vs') : ∃ i : Nat, ns[i]? = some x ∧ vs' = vs.set i (some v) := by
  induction h with
  | here => exact ⟨0, rfl, rfl⟩
  | there _ ih => obtain ⟨i, a, b⟩ := ih; exact ⟨i + 1, a, congrArg _ b⟩
inductive Chg (d : Addr) (o o' : Obj) : List (Addr × Obj) → List (Addr × Obj) → Prop
  | here {r : List (Addr × Obj)} : Chg d o o' ((d, o) :: r) ((d, o') :: r)
  | there {p : Addr × Obj} {r r' : List (Addr × Obj)} : Chg d o o' r r' → Chg d o o' (p :: r) (p :: r')
theorem Chg.mem {d : Addr} {o o' : Obj} {l l' : List (Addr × Obj)} (h : Chg d o o' l l') : (d, o) ∈ l := by
  induction h with
  | here => exact .head _
  | there _ ih => exact .tail _ ih
theorem Chg.map {d : Addr} {o o' : Obj} {l l' : List (Addr × Obj)} (h : Chg d o o' l l') : l'.map (·.1) = l.map (·.1) := by
  induction h with
  | here => rfl
  | there _ ih => exact congrArg (List.cons _) ih
theorem Chg.of {d : Addr} {o o' : Obj} {l l' : List (Addr × Obj)} (h : Chg d o o' l l') (nd : (l.map (·.1)).Nodup) {p : Addr × Obj} (hp : p ∈ l') : p = (d, o') ∨ (p ∈ l ∧ p.1 ≠ d) := by
  induction h with
  | here =>
    rcases List.mem_cons.mp hp with e | hp
    · exact .inl e
    · exact .inr ⟨.tail _ hp, fun e => (List.nodup_cons.mp nd).1 (List.mem_map.mpr ⟨p, hp, e⟩)⟩
  | there h ih =>
    rcases List.mem_cons.mp hp with e | hp
    · exact .inr ⟨e ▸ .head _, fun q => (List.nodup_cons.mp nd).1 (List.mem_map.mpr ⟨_, h.mem, q.symm.trans (congrArg _ e)⟩)⟩
    · exact (ih (List.nodup_cons.mp nd).2 hp).imp id fun q => ⟨.tail _ q.1, q.2⟩
inductive Has (d : Addr) (o : Obj) : List (Addr × Obj) → Prop
  | here {r : List (Addr × Obj)} : Has d o ((d, o) :: r)
  | there {p : Addr × Obj} {r : List (Addr × Obj)} : Has d o r → Has d o (p :: r)
theorem Has.mem {d : Addr} {o : Obj} {l : List (Addr × Obj)} (h : Has d o l) : (d, o) ∈ l := by
  induction h with
  | here => exact .head _
  | there _ ih => exact .tail _ ih
structure St (G : Gh) (Z : Zt) (vs : List (Option Value)) (mt : List (Addr × Obj)) (s : Shared) : Prop where
  ns : s.heap.Ns G.L (look G.nm vs)
  len : vs.length = G.nm.length
  newL : G.h₀.get? G.L = none
  keep : ∀ b o, G.h₀.get? b = some o → b ∉ G.ft → b ∉ G.fr → s.heap.get? b = some o
  keepF : ∀ b o, G.h₀.get? b = some o → b ∈ G.fr → ∃ sl, s.heap.get? b = some { o with slots := sl }
  live : ∀ b o, G.h₀.get? b = some o → (s.heap.get? b).isSome = true
  z : ∀ a o, Z a o → s.heap.get? a = some o
  zs : ∀ a o, G.Z₀ a o → Z a o
  zn : ∀ a o, Z a o → G.Z₀ a o ∨ G.h₀.get? a = none
  zL : ∀ o, ¬ Z G.L o
  zF : ∀ a o, Z a o → a ∉ G.fr
  mu : ∀ p ∈ mt, s.heap.get? p.1 = some p.2 ∧ p.1 ≠ G.L ∧ p.1 ∉ G.fr ∧ (p.1 ∈ G.ft ∨ G.h₀.get? p.1 = none) ∧ ∀ o, ¬ Z p.1 o
  nd : (mt.map (·.1)).Nodup
  gens : s.gens = G.gens
  drawn : s.drawn = G.drawn
  os : s.os = G.os
structure Act (w : World) (A : Around) (env : Env) (G : Gh) (outer : List Env) : Prop where
  loc : env.locals = G.L
  frm : env.frame = some G.L
  glo : env.globals = mainGlobals
  blt : env.builtins = builtinsNs
  knd : env.scope.kind = .function
  kloc : ∀ x ∈ G.nm, env.kindOf x = some .local
  kglb : ∀ x ∈ G.gn, env.kindOf x = some .globalImplicit
  nd : G.nm.Nodup
  dbg : ("__debug__" : Str) ∉ G.nm ∧ ("__debug__" : Str) ∉ G.gn
  frs : A.frames = some (env :: outer)
  hnd : A.handled = none
  kin : (KK w).In G.B
  top : ∃ mean mg mb, Top qv (looseW qv loose) mean mg mb G.B
  zb : ∀ a o, G.B.get? a = some o → G.Z₀ a o
  out : outer.filterMap (·.frame) = G.fr
  fun_ : G.h₀.FunFrames ⟨#[], {}⟩ outer
  fta : ∀ b ∈ G.ft, (G.h₀.get? b).isSome = true
theorem St.lift {G : Gh} {Z : Zt} {vs vs' : List (Option Value)} {mt mt' : List (Addr × Obj)} {s : Shared} {h' : Heap} {tk : Tok} {d : Addr} (S : St G Z vs mt s)
    (hs : Heap.SameBut d s.heap h') (hns : h'.Ns G.L (look G.nm vs')) (hl : vs'.length = G.nm.length)
    (hd : d = G.L ∨ d ∈ mt.map (·.1))
    (hmu : ∀ p ∈ mt', h'.get? p.1 = some p.2) (hm : mt'.map (·.1) = mt.map (·.1)) :
    St G Z vs' mt' { s with heap := h', toks := tk } := by
  have hdZ : ∀ a o, Z a o → a ≠ d := by
    rintro a o za rfl
    rcases hd with rfl | hd
    · exact S.zL _ za
    · obtain ⟨p, hp, rfl⟩ := List.mem_map.mp hd
      exact (S.mu p hp).2.2.2.2 _ za
  have hdL : d ∈ G.ft ∨ G.h₀.get? d = none := by
    rcases hd with rfl | hd
    · exact .inr S.newL
    · obtain ⟨p, hp, rfl⟩ := List.mem_map.mp hd
      exact (S.mu p hp).2.2.2.1
  have hdF : G.h₀.get? d = none ∨ d ∉ G.fr := by
    rcases hd with rfl | hd
    · exact .inl S.newL
    · obtain ⟨p, hp, rfl⟩ := List.mem_map.mp hd
      exact .inr (S.mu p hp).2.2.1
  have alive : ∃ od, h'.get? d = some od := by
    rcases hd with rfl | hd
    · obtain ⟨o, _, _, ho, _⟩ := hns; exact ⟨o, ho⟩
    · rw [← hm] at hd
      obtain ⟨p, hp, rfl⟩ := List.mem_map.mp hd
      exact ⟨_, hmu p hp⟩
  refine ⟨hns, hl, S.newL, fun b o e h1 h2 => ?_, fun b o e h1 => ?_, fun b o e => ?_, fun a o za => (hs.2 a (hdZ a o za)).trans (S.z a o za), S.zs, S.zn, S.zL, S.zF, fun p hp => ?_, hm ▸ S.nd, S.gens, S.drawn, S.os⟩
  · have : b ≠ d := by rintro rfl; rcases hdL with q | q; exact h1 q; rw [q] at e; cases e
    exact (hs.2 b this).trans (S.keep b o e h1 h2)
  · have : b ≠ d := by rintro rfl; rcases hdF with q | q; rw [q] at e; cases e; exact q h1
    obtain ⟨sl, q⟩ := S.keepF b o e h1
    exact ⟨sl, (hs.2 b this).trans q⟩
  · by_cases q : b = d
    · subst q; obtain ⟨od, q⟩ := alive; show (h'.get? b).isSome = true; rw [q]; rfl
    · show (h'.get? b).isSome = true
      rw [hs.2 b q]; exact S.live b o e
  · have : p.1 ∈ mt.map (·.1) := hm ▸ List.mem_map_of_mem hp
    obtain ⟨q, hq, e⟩ := List.mem_map.mp this
    have r := (S.mu q hq).2
    rw [e] at r
    exact ⟨hmu p hp, r⟩
theorem St.chg {G : Gh} {Z : Zt} {vs : List (Option Value)} {mt mt' : List (Addr × Obj)} {s : Shared} {h' : Heap} {tk : Tok} {d : Addr} {o o' : Obj} (S : St G Z vs mt s) (c : Chg d o o' mt mt')
    (hs : Heap.SameBut d s.heap h') (ho : h'.get? d = some o') : St G Z vs mt' { s with heap := h', toks := tk } :=
  S.lift hs (S.ns.sameBut hs (Ne.symm (S.mu _ c.mem).2.1)) S.len (.inr (List.mem_map_of_mem c.mem)) (fun p hp => by
    rcases c.of S.nd hp with rfl | ⟨q, q'⟩
    · exact ho
    · exact (hs.2 _ q').trans (S.mu p q).1) c.map
theorem St.has {G : Gh} {Z : Zt} {vs : List (Option Value)} {mt : List (Addr × Obj)} {s : Shared} {d : Addr} {o : Obj} (S : St G Z vs mt s) (h : Has d o mt) : s.heap.get? d = some o := (S.mu _ h.mem).1
theorem St.sub {G : Gh} {Z : Zt} {vs : List (Option Value)} {mt mt' : List (Addr × Obj)} {s : Shared} (S : St G Z vs mt s) (h : mt'.Sublist mt) : St G Z vs mt' s :=
  { S with mu := fun p hp => S.mu p (h.subset hp), nd := S.nd.sublist (h.map _) }
theorem St.nil {G : Gh} {Z : Zt} {vs : List (Option Value)} {mt : List (Addr × Obj)} {s : Shared} (S : St G Z vs mt s) : St G Z vs [] s := S.sub (List.nil_sublist _)
theorem St.grow {G : Gh} {Z : Zt} {vs : List (Option Value)} {mt : List (Addr × Obj)} {s : Shared} {h' : Heap} {tk : Tok} (S : St G Z vs mt s) (hk : ∀ b o, s.heap.get? b = some o → h'.get? b = some o) :
    St G Z vs mt { s with heap := h', toks := tk } :=
  ⟨S.ns.keeps hk, S.len, S.newL, fun b o e h1 h2 => hk _ _ (S.keep b o e h1 h2), fun b o e h1 => let ⟨sl, q⟩ := S.keepF b o e h1; ⟨sl, hk _ _ q⟩,
    fun b o e => by obtain ⟨o', q⟩ := Option.isSome_iff_exists.mp (S.live b o e); show (h'.get? b).isSome = true; rw [hk _ _ q]; rfl, fun a o za => hk _ _ (S.z a o za), S.zs, S.zn, S.zL, S.zF,
    fun p hp => ⟨hk _ _ (S.mu p hp).1, (S.mu p hp).2⟩, S.nd, S.gens, S.drawn, S.os⟩
theorem St.tok {G : Gh} {Z : Zt} {vs : List (Option Value)} {mt : List (Addr × Obj)} {s : Shared} {tk : Tok} (S : St G Z vs mt s) : St G Z vs mt { s with toks := tk } := S.grow fun _ _ e => e
theorem St.own {G : Gh} {Z : Zt} {vs : List (Option Value)} {mt : List (Addr × Obj)} {s s' : Shared} {a : Addr} {o : Obj} (S : St G Z vs mt s) (S' : St G Z vs mt s') (hn : s.heap.get? a = none) (ha : s'.heap.get? a = some o) (hfr : ∀ b ∈ G.fr, (s.heap.get? b).isSome = true) :
    St G Z vs ((a, o) :: mt) s' := by
  have hL : a ≠ G.L := by rintro rfl; obtain ⟨o, _, _, ho, _⟩ := S.ns; rw [hn] at ho; cases ho
  have hF : a ∉ G.fr := fun q => by have := hfr a q; rw [hn] at this; cases this
  have h0 : G.h₀.get? a = none := by
    cases q : G.h₀.get? a with
    | none => rfl
    | some o' => have := S.live a o' q; rw [hn] at this; cases this
  refine { S' with mu := fun p hp => ?_, nd := ?_ }
  · rcases List.mem_cons.mp hp with rfl | hp
    · exact ⟨ha, hL, hF, .inr h0, fun o za => by have := S.z _ _ za; rw [hn] at this; cases this⟩
    · exact S'.mu p hp
  · rw [List.map_cons, List.nodup_cons]
    refine ⟨fun q => ?_, S'.nd⟩
    obtain ⟨p, hp, e⟩ := List.mem_map.mp q
    have := (S.mu p hp).1
    rw [e, hn] at this; cases this
theorem St.freeze {G : Gh} {Z : Zt} {vs : List (Option Value)} {mt : List (Addr × Obj)} {s : Shared} {a : Addr} {o : Obj} (S : St G Z vs ((a, o) :: mt) s) (hft : a ∉ G.ft) :
    St G (fun b x => Z b x ∨ (b = a ∧ x = o)) vs mt s := by
  have A := S.mu (a, o) (.head _)
  refine { S with z := ?_, zs := fun b x q => .inl (S.zs b x q), zn := ?_, zL := ?_, zF := ?_, mu := fun p hp => ?_, nd := (List.nodup_cons.mp (List.map_cons ▸ S.nd)).2 }
  · rintro b x (q | ⟨rfl, rfl⟩)
    · exact S.z b x q
    · exact A.1
  · rintro b x (q | ⟨rfl, rfl⟩)
    · exact S.zn b x q
    · exact .inr (A.2.2.2.1.resolve_left hft)
  · rintro x (q | ⟨e, rfl⟩)
    · exact S.zL x q
    · exact A.2.1 e.symm
  · rintro b x (q | ⟨rfl, rfl⟩)
    · exact S.zF b x q
    · exact A.2.2.1
  · have M := S.mu p (.tail _ hp)
    refine ⟨M.1, M.2.1, M.2.2.1, M.2.2.2.1, ?_⟩
    rintro x (q | ⟨e, rfl⟩)
    · exact M.2.2.2.2 x q
    · have nd := S.nd
      rw [List.map_cons, List.nodup_cons] at nd
      exact nd.1 (List.mem_map.mpr ⟨p, hp, e⟩)
section
variable {w : World} {A : Around} {env : Env} {G : Gh} {outer : List Env} {Z : Zt} {vs : List (Option Value)} {mt : List (Addr × Obj)} {s : Shared} {E : Value → Shared → Prop}
theorem Act.stays (a : Act w A env G outer) (S : St G Z vs mt s) : ∀ b o, G.B.get? b = some o → s.heap.get? b = some o := fun b o e => S.z b o (S.zs b o (a.zb b o e))
theorem Act.kh (a : Act w A env G outer) (S : St G Z vs mt s) : (KK w).In s.heap := a.kin.keeps (a.stays S)
theorem Act.frl (a : Act w A env G outer) (S : St G Z vs mt s) : ∀ b ∈ G.fr, (s.heap.get? b).isSome = true := fun b hb => by
  rw [← a.out] at hb
  obtain ⟨o, ho, _⟩ := (a.fun_.mem hb).2
  exact S.live b o ho
noncomputable def Fresh (G : Gh) (Z : Zt) (b : Addr) : Prop := (∀ o, ¬ Z b o) ∧ b ∉ G.ft
theorem Act.fresh (a : Act w A env G outer) (S : St G Z vs mt s) {b : Addr} (hn : s.heap.get? b = none) : Fresh G Z b := by
  refine ⟨fun o za => ?_, fun q => ?_⟩
  · have := S.z _ _ za; rw [hn] at this; cases this
  · obtain ⟨o, ho⟩ := Option.isSome_iff_exists.mp (a.fta b q)
    have := S.live b o ho
    rw [hn] at this; cases this
theorem no_size {h : Heap} : h.get? h.objs.size = none := by
  cases q : h.get? h.objs.size with
  | none => rfl
  | some o => exact absurd (Heap.lt_size q) (Nat.lt_irrefl _)
theorem St.push (a : Act w A env G outer) (S : St G Z vs mt s) (o : Obj) (hf : o.isFreed = false) (tk : Tok) : St G Z vs ((s.heap.objs.size, o) :: mt) { s with heap := s.heap.push o, toks := tk } :=
  S.own (S.grow fun _ _ e => Heap.get?_push_of_some _ e) no_size (Heap.get?_push_size _ hf) (a.frl S)
theorem St.drop {it : Addr} {o : Obj} {h' : Heap} {tk : Tok} (S : St G Z vs ((it, o) :: mt) s) (hx : Heap.ExtBut it s.heap h') (hft : it ∉ G.ft) : St G Z vs mt { s with heap := h', toks := tk } := by
  have M := S.mu _ (.head _)
  have h0 : G.h₀.get? it = none := M.2.2.2.1.resolve_left hft
  have nd := S.nd
  rw [List.map_cons, List.nodup_cons] at nd
  have neZ : ∀ a o, Z a o → a ≠ it := fun a o za e => M.2.2.2.2 o (e ▸ za)
  have ne0 : ∀ b o, G.h₀.get? b = some o → b ≠ it := fun b o e q => by subst q; rw [h0] at e; cases e
  refine ⟨?_, S.len, S.newL, fun b o e h1 h2 => hx b o (ne0 b o e) (S.keep b o e h1 h2), fun b o e h1 => let ⟨sl, q⟩ := S.keepF b o e h1; ⟨sl, hx b _ (ne0 b o e) q⟩, fun b o e => ?_, fun a o za => hx a o (neZ a o za) (S.z a o za), S.zs, S.zn, S.zL, S.zF,
    fun p hp => ⟨hx _ _ (fun e => nd.1 (List.mem_map.mpr ⟨p, hp, e⟩)) (S.mu p (.tail _ hp)).1, (S.mu p (.tail _ hp)).2⟩, nd.2, S.gens, S.drawn, S.os⟩
  · obtain ⟨o, es, ep, ho, r⟩ := S.ns
    exact ⟨o, es, ep, hx _ _ (Ne.symm M.2.1) ho, r⟩
  · obtain ⟨o', q⟩ := Option.isSome_iff_exists.mp (S.live b o e)
    show (h'.get? b).isSome = true
    rw [hx b o' (ne0 b o e) q]; rfl
theorem R_loc {x : Str} {pos : Pos} {v : Value} {Q : Value → Shared → Prop} (a : Act w A env G outer) (S : St G Z vs mt s) {nm : List Str} (hnm : G.nm = nm) (hat : At nm vs x v) (h : Q v s) :
    wpAny (model P w) A (eval (.Name x pos) env) Q E s := by
  subst hnm
  obtain ⟨i, hx, hv⟩ := hat.get
  have hm := List.mem_of_getElem? hx
  exact wpAny_Name (wpAny_loadName_local a.knd (a.kloc x hm) (a.loc.symm ▸ S.ns) (look_get a.nd hx hv) h) (beq_eq_false_iff_ne.mpr fun e => a.dbg.1 (e ▸ hm))
theorem R_st {x : Str} {v : Value} {Q : Unit → Shared → Prop} (a : Act w A env G outer) (S : St G Z vs mt s) {nm : List Str} {vs' : List (Option Value)} (hnm : G.nm = nm) (hput : Put nm vs x v vs') (h : ∀ s', St G Z vs' mt s' → Q () s') :
    wpAny (model P w) A (storeName env x v) Q E s := by
  subst hnm
  obtain ⟨i, hx, rfl⟩ := hput.get
  have hm := List.mem_of_getElem? hx
  refine wpAny_storeName_local (a.kloc x hm) (a.loc.symm ▸ S.ns) (fun h' hn hs => h _ (S.lift (a.loc ▸ hs) ?_ (by rw [List.length_set]; exact S.len) (.inl a.loc) (fun p hp => ?_) rfl)) ?_
  · rw [look_set a.nd S.len hx] at hn
    exact a.loc ▸ hn
  · exact (hs.2 _ (a.loc ▸ (S.mu p hp).2.1)).trans (S.mu p hp).1
  · rw [a.knd]; rfl
theorem R_glob {x : Str} {pos : Pos} {v : Value} {Q : Value → Shared → Prop} (a : Act w A env G outer) (S : St G Z vs mt s) {gn : List Str} (hgn : G.gn = gn) (hc : gn.contains x = true) (e : nsIn (KK w) mainGlobals x = some (some v)) (h : Q v s) :
    wpAny (model P w) A (eval (.Name x pos) env) Q E s := by
  subst hgn
  have hx := List.contains_iff_mem.mp hc
  obtain ⟨mean, mg, mb, T⟩ := a.top
  exact Calls.Name_function_global a.knd (a.kglb x hx) (Calls.loadGlobal_global (a.glo ▸ T.g.keeps (a.stays S)) (mg_of a.kin T.g e) h) (beq_eq_false_iff_ne.mpr fun e => a.dbg.2 (e ▸ hx))
theorem R_blt {x : Str} {pos : Pos} {v : Value} {Q : Value → Shared → Prop} (a : Act w A env G outer) (S : St G Z vs mt s) {gn : List Str} (hgn : G.gn = gn) (hc : gn.contains x = true) (e : nsIn (KK w) mainGlobals x = some none) (hv : bootBuiltins x = some v) (hn : x ≠ "__name__") (h : Q v s) :
    wpAny (model P w) A (eval (.Name x pos) env) Q E s := by
  subst hgn
  have hx := List.contains_iff_mem.mp hc
  obtain ⟨mean, mg, mb, T⟩ := a.top
  exact Calls.Name_function_global a.knd (a.kglb x hx) (Calls.loadGlobal_builtin (a.glo ▸ T.g.keeps (a.stays S)) (mg_none_of a.kin T.g e) (a.blt ▸ T.b.keeps (a.stays S)) ((T.builtins x hn).trans hv) h) (beq_eq_false_iff_ne.mpr fun e => a.dbg.2 (e ▸ hx))
end
noncomputable def Room (A : Around) (n : Nat) : Prop := A.depth + 8 * n < recursionLimit ∧ A.units + 40 * n < cLine
noncomputable def scopeOk (fd : FuncData) (binds : List (Str × Value)) (nm gn : List Str) : Bool :=
  (fd.scope.kind == .function) && !fd.scope.isCoroutine && !fd.scope.isGenerator && fd.scope.names.all (fun x => x.2 != .cell) && binds.all (fun x => decide (fd.scope.names.lookup x.1 = some .local)) &&
  nm.all (fun x => decide (fd.scope.names.lookup x = some .local)) && gn.all (fun x => decide (fd.scope.names.lookup x = some .globalImplicit)) && decide nm.Nodup && !nm.contains "__debug__" && !gn.contains "__debug__" &&
  decide (fd.globals = mainGlobals) && decide (fd.builtins = builtinsNs) && fd.closure.isEmpty && binds.all (fun x => nm.contains x.1)
noncomputable abbrev retOf : Flow → Value
  | .ret v => v
  | _ => .none
noncomputable abbrev mkG (B : Heap) (s : Shared) (foot : List (Addr × Obj)) (fr : List Addr) (Z : Zt) (nm gn : List Str) : Gh :=
  ⟨B, s.heap, foot.map (·.1), fr, Z, s.heap.objs.size, nm, gn, s.gens, s.drawn, s.os⟩
theorem look_vals (nm : List Str) (f : Str → Option Value) (x : Str) : look nm (nm.map f) x = if x ∈ nm then f x else none := by
  induction nm with
  | nil => rfl
  | cons n ns ih =>
    show (if x = n then f n else look ns (ns.map f) x) = _
    rw [ih]
    by_cases h : x = n
    · rw [if_pos h, if_pos (h ▸ .head _), h]
    · rw [if_neg h]
      by_cases h' : x ∈ ns
      · rw [if_pos h', if_pos (.tail _ h')]
      · rw [if_neg h', if_neg fun q => (List.mem_cons.mp q).elim h h']
section
variable {w : World} {A : Around} {env : Env} {G : Gh} {outer : List Env} {Z : Zt} {vs : List (Option Value)} {mt foot rest : List (Addr × Obj)} {s : Shared} {E : Value → Shared → Prop}
theorem funFrames_up {h h' base : Heap} {l : List Env} (f : h.FunFrames base l) (k : ∀ env ∈ l, ∀ L o, env.frame = some L → h.get? L = some o → ∃ sl, h'.get? L = some { o with slots := sl }) : h'.FunFrames base l := by
  induction l with
  | nil => trivial
  | cons env l ih =>
    obtain ⟨hk, ⟨L, o, hf, hn, ho, hd⟩, hr⟩ := f
    obtain ⟨sl, q⟩ := k env (.head _) L o hf ho
    exact ⟨hk, ⟨L, _, hf, hn, q, hd⟩, ih hr fun e he => k e (.tail _ he)⟩
theorem Act.below (a : Act w A env G outer) (S : St G Z vs mt s) : s.heap.FunFrames ⟨#[], {}⟩ (env :: outer) := by
  refine ⟨(by rw [a.knd]; intro e; cases e), ?_, ?_⟩
  · obtain ⟨o, es, ep, ho, hd, _⟩ := S.ns
    exact ⟨G.L, o, a.frm, rfl, ho, fun vs q => by rw [hd] at q; cases q⟩
  · refine funFrames_up a.fun_ fun e he L o hf ho => S.keepF L o ho ?_
    rw [← a.out]
    exact List.mem_filterMap.mpr ⟨e, he, hf⟩
theorem St.back {G' : Gh} {Z' : Zt} {vs' : List (Option Value)} {mt' : List (Addr × Obj)} {s' : Shared} {nm gn : List Str} (S : St G Z vs (foot ++ rest) s) (hG : G' = mkG G.B s foot (G.L :: G.fr) Z nm gn) (S' : St G' Z' vs' mt' s') :
    St G Z' vs (mt' ++ rest) s' := by
  subst hG
  have alive : ∀ p ∈ foot ++ rest, s.heap.get? p.1 = some p.2 := fun p hp => (S.mu p hp).1
  have nF : ∀ p ∈ foot ++ rest, p.1 ∉ G.L :: G.fr := fun p hp q => by
    rcases List.mem_cons.mp q with q | q
    · exact (S.mu p hp).2.1 q
    · exact (S.mu p hp).2.2.1 q
  have dis : ∀ p ∈ rest, p.1 ∉ foot.map (·.1) := fun p hp q => by
    have nd := S.nd
    rw [List.map_append, List.nodup_append] at nd
    exact nd.2.2 _ q _ (List.mem_map_of_mem hp) rfl
  have oldZ : ∀ a o, Z' a o → (∃ o', s.heap.get? a = some o') → Z a o := fun a o za ⟨o', q⟩ => (S'.zn a o za).resolve_right fun z => by rw [show s.heap.get? a = none from z] at q; cases q
  have frs : ∀ b o, s.heap.get? b = some o → b ∈ G.L :: G.fr → ∃ sl, s'.heap.get? b = some { o with slots := sl } := S'.keepF
  have kp : ∀ b o, s.heap.get? b = some o → b ∉ foot.map (·.1) → b ∉ G.L :: G.fr → s'.heap.get? b = some o := S'.keep
  have ftn : ∀ p ∈ foot, p.1 ∈ G.ft ∨ G.h₀.get? p.1 = none := fun p hp => (S.mu p (List.mem_append_left _ hp)).2.2.2.1
  refine ⟨?_, S.len, S.newL, fun b o e h1 h2 => ?_, fun b o e h1 => ?_, fun b o e => ?_, S'.z, fun a o q => S'.zs a o (S.zs a o q), fun a o za => ?_, fun o za => ?_, fun a o za q => ?_, fun p hp => ?_, ?_, S'.gens.trans S.gens, S'.drawn.trans S.drawn, S'.os.trans S.os⟩
  · obtain ⟨o, es, ep, ho, hd, r⟩ := S.ns
    obtain ⟨sl, q⟩ := frs _ _ ho (.head _)
    exact ⟨_, es, ep, q, hd, r⟩
  · have hb := S.keep b o e h1 h2
    refine kp b o hb (fun q => ?_) fun q => ?_
    · obtain ⟨p, hp, rfl⟩ := List.mem_map.mp q
      rcases ftn p hp with z | z
      · exact h1 z
      · rw [z] at e; cases e
    · rcases List.mem_cons.mp q with rfl | q
      · rw [S.newL] at e; cases e
      · exact h2 q
  · obtain ⟨sl, q⟩ := S.keepF b o e h1
    obtain ⟨sl', q'⟩ := frs _ _ q (.tail _ h1)
    exact ⟨sl', q'⟩
  · obtain ⟨o', q⟩ := Option.isSome_iff_exists.mp (S.live b o e)
    exact S'.live b o' q
  · rcases S'.zn a o za with q | q
    · exact S.zn a o q
    · refine .inr ?_
      cases z : G.h₀.get? a with
      | none => rfl
      | some o' => have := S.live a o' z; rw [show s.heap.get? a = none from q] at this; cases this
  · obtain ⟨oL, _, _, ho, _⟩ := S.ns
    exact S.zL o (oldZ _ _ za ⟨oL, ho⟩)
  · exact S'.zF a o za (.tail _ q)
  · rcases List.mem_append.mp hp with hp | hp
    · have M := S'.mu p hp
      refine ⟨M.1, fun q => M.2.2.1 (q ▸ .head _), fun q => M.2.2.1 (.tail _ q), ?_, M.2.2.2.2⟩
      rcases M.2.2.2.1 with q | q
      · obtain ⟨p', hp', e⟩ := List.mem_map.mp q
        rw [← e]; exact ftn p' hp'
      · refine .inr ?_
        cases z : G.h₀.get? p.1 with
        | none => rfl
        | some o' => have := S.live p.1 o' z; rw [show s.heap.get? p.1 = none from q] at this; cases this
    · have M := S.mu p (List.mem_append_right _ hp)
      exact ⟨kp _ _ M.1 (dis p hp) (nF p (List.mem_append_right _ hp)), M.2.1, M.2.2.1, M.2.2.2.1, fun o za => M.2.2.2.2 o (oldZ _ _ za ⟨_, M.1⟩)⟩
  · rw [List.map_append, List.nodup_append]
    have nd := S.nd
    rw [List.map_append, List.nodup_append] at nd
    refine ⟨S'.nd, nd.2.1, fun x hx y hy e => ?_⟩
    subst e
    obtain ⟨p, hp, rfl⟩ := List.mem_map.mp hx
    obtain ⟨q, hq, e⟩ := List.mem_map.mp hy
    rcases (S'.mu p hp).2.2.2.1 with z | z
    · exact dis q hq (e ▸ z)
    · have := (S.mu q (List.mem_append_right _ hq)).1
      rw [e, show s.heap.get? p.1 = none from z] at this; cases this
inductive Back (G G' : Gh) (vs : List (Option Value)) (rest : List (Addr × Obj)) (R : Value → Shared → Prop) (fl : Flow) (s'' : Shared) : Prop
  | mk {Z' : Zt} {vs' : List (Option Value)} {mt' : List (Addr × Obj)} (S : St G' Z' vs' mt' s'') (k : St G Z' vs (mt' ++ rest) s'' → R (retOf fl) s'') : Back G G' vs rest R fl s''
theorem Room.sub {A A' : Around} {n m : Nat} (h : Room A n) (dA : A'.depth = A.depth + 1) (uA : A'.units = A.units + 3) (k : m + 1 ≤ n) : Room A' m := ⟨Nat.lt_of_le_of_lt (by rw [dA]; exact lin1 (Nat.mul_le_mul_left 8 k) (by wtm_at "a")) h.1, Nat.lt_of_le_of_lt (by rw [uA]; exact lin1 (Nat.mul_le_mul_left 40 k) (by wtm_at "a")) h.2⟩
theorem Room.dep {A : Around} {n : Nat} (h : Room A n) : A.depth < recursionLimit := by have := h.1; exact lin1 this (by wtm_at "a")
theorem Room.un {A : Around} {n : Nat} (h : Room A n) : A.units < cLine := by have := h.2; exact lin1 this (by wtm_at "a")
theorem Room.le {A : Around} {n m : Nat} (h : Room A n) (k : m ≤ n) : Room A m := ⟨Nat.lt_of_le_of_lt (Nat.add_le_add_left (Nat.mul_le_mul_left 8 k) _) h.1, Nat.lt_of_le_of_lt (Nat.add_le_add_left (Nat.mul_le_mul_left 40 k) _) h.2⟩
theorem call_code {f : Addr} {ob : Obj} {fd : FuncData} {body : List Stmt} {binds : List (Str × Value)} {pos : List Value} {nm gn : List Str} {R : Result → Shared → Prop} {X : Gh → Env → Value → Shared → Prop}
    (a : Act w A env G outer) (S : St G Z vs (foot ++ rest) s) (hdep : A.depth < recursionLimit)
    (ho : (KK w).lookup f = some ob) (hd : ob.data = .func fd) (hb : fd.body = .stmts body) (hcd : codeIn (KK w) fd.code fd.qualname = true)
    (hbind : BindsTo s fd ⟨pos, []⟩ binds) (sc : scopeOk fd binds nm gn = true) {vs₁ : List (Option Value)} (hvs : nm.map (fun x => binds.reverse.lookup x) = vs₁)
    (h : ∀ A' env' G' s', A'.depth = A.depth + 1 → A'.units = A.units + 3 → G' = mkG G.B s foot (G.L :: G.fr) Z nm gn → G'.nm = nm → G'.gn = gn → Act w A' env' G' (env :: outer) → St G' Z vs₁ foot s' →
      wpAny (model P w) A' (execs body env') (Back G G' vs rest fun v s'' => R (.ok (.ret v)) s'') (X G' env') s')
    (hX : ∀ A' env' G' e s', Act w A' env' G' (env :: outer) → A'.frames = some (env' :: env :: outer) → G' = mkG G.B s foot (G.L :: G.fr) Z nm gn → X G' env' e s' → wpAny (model P w) A' (leaving env' e) (fun _ s'' => R (.error e) s'') (fun e' s'' => R (.error e') s'') s') :
    codeAny (model P w) A (.call (.ref f) ⟨pos, []⟩) R s := by
  simp only [scopeOk, Bool.and_eq_true, Bool.not_eq_true', beq_iff_eq, List.all_eq_true, decide_eq_true_eq, bne_iff_ne, List.isEmpty_iff] at sc
  obtain ⟨⟨⟨⟨⟨⟨⟨⟨⟨⟨⟨⟨⟨k1, k2⟩, k3⟩, k4⟩, k5⟩, k6⟩, k7⟩, k8⟩, k9⟩, k10⟩, k11⟩, k12⟩, k13⟩, k14⟩ := sc
  have kh := a.kh S
  obtain ⟨mean, mg, mb, T⟩ := a.top
  refine codeAny_call_def (fd := fd) (body := body) (binds := binds) hdep (kh _ _ ho) hd (T.nolimit.keeps (a.stays S)) (codeRec_of kh hcd) hb hbind k4 k5 (fun h₁ hns hk => ?_) k2 k3 k1
  generalize hA' : A.deeper (callEnv fd s.heap.objs.size f) = A'
  generalize he' : callEnv fd s.heap.objs.size f = env'
  have hfr : A'.frames = some (env' :: env :: outer) := by rw [← hA', ← he']; show A.frames.map _ = _; rw [a.frs]; rfl
  have act : Act w A' env' (mkG G.B s foot (G.L :: G.fr) Z nm gn) (env :: outer) := by
    refine ⟨?_, ?_, ?_, ?_, ?_, ?_, ?_, k8, ⟨?_, ?_⟩, hfr, ?_, a.kin, a.top, fun b o e => S.zs b o (a.zb b o e), ?_, a.below S, ?_⟩
    · rw [← he']; rfl
    · rw [← he']; rfl
    · rw [← he']; exact k11
    · rw [← he']; exact k12
    · rw [← he']; exact k1
    · rw [← he']; exact k6
    · rw [← he']; exact k7
    · intro q; rw [List.contains_iff_mem.mpr q] at k9; cases k9
    · intro q; rw [List.contains_iff_mem.mpr q] at k10; cases k10
    · rw [← hA']; exact a.hnd
    · rw [List.filterMap_cons, a.frm, a.out]
    · intro b hb
      obtain ⟨p, hp, rfl⟩ := List.mem_map.mp hb
      show (s.heap.get? p.1).isSome = true
      rw [(S.mu p (List.mem_append_left _ hp)).1]; rfl
  have szn : s.heap.get? s.heap.objs.size = none := by
    cases q : s.heap.get? s.heap.objs.size with
    | none => rfl
    | some o => exact absurd (Heap.lt_size q) (Nat.lt_irrefl _)
  have st : St (mkG G.B s foot (G.L :: G.fr) Z nm gn) Z (nm.map (fun x => binds.reverse.lookup x)) foot { s with heap := h₁, toks := s.toks + binds.length } := by
    refine ⟨?_, by rw [List.length_map], szn, fun b o e _ _ => hk b o e, fun b o e _ => ⟨o.slots, hk b o e⟩, fun b o e => ?_, fun b o za => hk b o (S.z b o za), fun _ _ q => q, fun _ _ q => .inl q, fun o za => ?_, fun b o za q => ?_, fun p hp => ?_, ?_, rfl, rfl, rfl⟩
    · have e : (fun x => binds.reverse.lookup x) = look nm (nm.map (fun x => binds.reverse.lookup x)) := by
        funext x
        rw [look_vals]
        split
        · rfl
        · rename_i hx
          cases q : List.lookup x binds.reverse with
          | none => rfl
          | some v =>
            exfalso
            have : ∃ y ∈ binds.reverse, y.1 = x := by
              have := List.lookup_eq_some_iff.mp q
              obtain ⟨l₁, l₂, e, _⟩ := this
              exact ⟨(x, v), by rw [e]; simp, rfl⟩
            obtain ⟨y, hy, rfl⟩ := this
            have := k14 y (List.mem_reverse.mp hy)
            exact hx (List.contains_iff_mem.mp this)
      rw [← e]; exact hns
    · show (h₁.get? b).isSome = true
      rw [hk b o e]; rfl
    · have := S.z _ _ za; rw [szn] at this; cases this
    · rcases List.mem_cons.mp q with rfl | q
      · exact S.zL _ za
      · exact S.zF _ _ za q
    · have M := S.mu p (List.mem_append_left _ hp)
      refine ⟨hk _ _ M.1, fun q => ?_, fun q => ?_, .inl (List.mem_map_of_mem hp), M.2.2.2.2⟩
      · have := M.1; rw [show p.1 = s.heap.objs.size from q, szn] at this; cases this
      · rcases List.mem_cons.mp q with q | q
        · exact M.2.1 q
        · exact M.2.2.1 q
    · have nd := S.nd
      rw [List.map_append, List.nodup_append] at nd
      exact nd.1
  have H := h A' env' _ _ (by rw [← hA']; rfl) (by rw [← hA']; rfl) rfl rfl rfl act (hvs ▸ st)
  refine wpAny_mono H (fun fl s'' z => ?_) fun e s'' z => ?_
  · obtain ⟨S', k⟩ := z
    exact k (S.back rfl S')
  · exact hX A' env' _ e s'' act hfr rfl z
theorem call_def {f : Addr} {ob : Obj} {fd : FuncData} {body : List Stmt} {binds : List (Str × Value)} {pos : List Value} {nm gn : List Str} {Q : Value → Shared → Prop} {X : Gh → Env → Value → Shared → Prop}
    (a : Act w A env G outer) (S : St G Z vs (foot ++ rest) s) (hdep : A.depth < recursionLimit)
    (ho : (KK w).lookup f = some ob) (hd : ob.data = .func fd) (hb : fd.body = .stmts body) (hcd : codeIn (KK w) fd.code fd.qualname = true)
    (hbind : bindArgs fd ⟨pos, []⟩ = pure binds) (sc : scopeOk fd binds nm gn = true) {vs₁ : List (Option Value)} (hvs : nm.map (fun x => binds.reverse.lookup x) = vs₁)
    (h : ∀ A' env' G' s', A'.depth = A.depth + 1 → A'.units = A.units + 3 → G' = mkG G.B s foot (G.L :: G.fr) Z nm gn → G'.nm = nm → G'.gn = gn → Act w A' env' G' (env :: outer) → St G' Z vs₁ foot s' →
      wpAny (model P w) A' (execs body env') (Back G G' vs rest Q) (X G' env') s')
    (hX : ∀ A' env' G' e s', A'.frames = some (env' :: env :: outer) → G' = mkG G.B s foot (G.L :: G.fr) Z nm gn → X G' env' e s' → wpAny (model P w) A' (leaving env' e) (fun _ s'' => E e s'') (fun e' s'' => E e' s'') s') :
    wpAny (model P w) A (call (.ref f) pos) Q E s :=
  wpAny_call (call_code (R := fun r s' => match r with | .ok (.ret v) => Q v s' | .ok _ => False | .error e => E e s') a S hdep ho hd hb hcd (BindsTo.of_eq hbind) sc hvs h fun A' env' G' e s' _ hfr hG z => hX A' env' G' e s' hfr hG z)
end
noncomputable abbrev Lo (xs : List Value) (n : Nat) : Obj := { cls := .type "list", data := .seq xs.toArray n }
noncomputable abbrev To (xs : List Value) (n : Nat) : Obj := { cls := .type "tuple", data := .seq xs.toArray n }
theorem ite_dec {c : Prop} [Decidable c] {X Y : Prop} (h1 : c → X) (h2 : ¬ c → Y) : if decide c = true then X else Y := by
  by_cases h : c
  · simp [h, h1 h]
  · simp [h, h2 h]
section
variable {w : World} {A : Around} {env : Env} {G : Gh} {outer : List Env} {Z : Zt} {vs : List (Option Value)} {mt : List (Addr × Obj)} {s : Shared} {E : Value → Shared → Prop}
theorem Act.quiet (a : Act w A env G outer) : interactive env = false := by unfold interactive; rw [a.knd]; rfl
theorem R_int {i : Int} {k : Nat} {pos : Pos} {Q : Value → Shared → Prop} (S : St G Z vs mt s) (h : ∀ t s', St G Z vs mt s' → Q (.int i t) s') : wpAny (model P w) A (eval (.Constant (.int i) k pos) env) Q E s :=
  wpAny_Constant_int (h _ _ S.tok)
theorem R_str {x : Str} {k : Nat} {pos : Pos} {Q : Value → Shared → Prop} (S : St G Z vs mt s) (h : ∀ t s', St G Z vs mt s' → Q (.str x t) s') : wpAny (model P w) A (eval (.Constant (.str x) k pos) env) Q E s :=
  wpAny_Constant_str (h _ _ S.tok)
theorem R_bytes {x : List UInt8} {k : Nat} {pos : Pos} {Q : Value → Shared → Prop} (S : St G Z vs mt s) (h : ∀ t s', St G Z vs mt s' → Q (.bytes x.toArray t) s') : wpAny (model P w) A (eval (.Constant (.bytes x) k pos) env) Q E s :=
  Constant_bytes (h _ _ S.tok)
theorem R_bool {b : Bool} {k : Nat} {pos : Pos} {Q : Value → Shared → Prop} (h : Q (.bool b) s) : wpAny (model P w) A (eval (.Constant (.bool b) k pos) env) Q E s := wpAny_Constant_bool h
theorem R_none {k : Nat} {pos : Pos} {Q : Value → Shared → Prop} (h : Q .none s) : wpAny (model P w) A (eval (.Constant .none k pos) env) Q E s := wpAny_Constant_none h
theorem R_add {a b : Int} {t u : Tok} {Q : Value → Shared → Prop} (S : St G Z vs mt s) (h : ∀ t s', St G Z vs mt s' → Q (.int (a + b) t) s') : wpAny (model P w) A (binaryOp .Add (.int a t) (.int b u)) Q E s := add_int (h _ _ S.tok)
theorem R_sub {a b : Int} {t u : Tok} {Q : Value → Shared → Prop} (S : St G Z vs mt s) (h : ∀ t s', St G Z vs mt s' → Q (.int (a - b) t) s') : wpAny (model P w) A (binaryOp .Sub (.int a t) (.int b u)) Q E s := sub_int (h _ _ S.tok)
theorem R_fdiv {a b : Int} {t u : Tok} {Q : Value → Shared → Prop} (S : St G Z vs mt s) (hb : b ≠ 0) (hp : Builtin.divisionGoesByPylong a b = false) (h : ∀ t s', St G Z vs mt s' → Q (.int (Int.fdiv a b) t) s') : wpAny (model P w) A (binaryOp .FloorDiv (.int a t) (.int b u)) Q E s := floordiv_int hb (h _ _ S.tok) (.inl hp)
theorem R_mod {a b : Int} {t u : Tok} {Q : Value → Shared → Prop} (S : St G Z vs mt s) (hb : b ≠ 0) (h : ∀ t s', St G Z vs mt s' → Q (.int (Int.fmod a b) t) s') : wpAny (model P w) A (binaryOp .Mod (.int a t) (.int b u)) Q E s := mod_int' hb (h _ _ S.tok)
theorem R_mul {a b : Int} {t u : Tok} {Q : Value → Shared → Prop} (S : St G Z vs mt s) (hk : IntMulOk a b) (h : ∀ t s', St G Z vs mt s' → Q (.int (a * b) t) s') : wpAny (model P w) A (binaryOp .Mult (.int a t) (.int b u)) Q E s := mul_int (h _ _ S.tok) hk
inductive KSet (G : Gh) (nm : List Str) (x : Str) (K : Shared → Prop) (v : Value) (s' : Shared) : Prop
  | mk {Z' : Zt} {vs' vs'' : List (Option Value)} {mt' : List (Addr × Obj)} (S : St G Z' vs' mt' s') (p : Put nm vs' x v vs'') (h : ∀ s'', St G Z' vs'' mt' s'' → K s'') : KSet G nm x K v s'
inductive KDef (G : Gh) (K : List Value → Shared → Prop) (us : List Value) (s' : Shared) : Prop
  | mk {Z' : Zt} {vs' : List (Option Value)} {mt' : List (Addr × Obj)} (S : St G Z' vs' mt' s') (h : K us s') : KDef G K us s'
theorem R_assign {x : Str} {xp pos : Pos} {value : PySem.Expr} {Q : Flow → Shared → Prop} (a : Act w A env G outer) {nm : List Str} (hnm : G.nm = nm)
    (hs : swapsWith value (some (.Name x xp)) pos.line env = pure false)
    (h : wpAny (model P w) A (eval value env) (KSet G nm x fun s'' => Q .next s'') E s) :
    wpAny (model P w) A (exec (.Assign [.Name x xp] value pos) env) Q E s :=
  wpAny_Assign_Name (wpAny_mono h (fun _ _ z => by obtain ⟨S, hp, k⟩ := z; exact R_st a S hnm hp k) fun _ _ e => e) hs
theorem R_exprN {e : PySem.Expr} {pos : Pos} {Q : Flow → Shared → Prop} (a : Act w A env G outer) (hs : swapsWith e none pos.line env = pure false)
    (h : wpAny (model P w) A (eval e env) (fun v s' => v = .none ∧ Q .next s') E s) : wpAny (model P w) A (exec (.Expr e pos) env) Q E s :=
  wpAny_Expr (wpAny_mono h (fun v s' z => by obtain ⟨rfl, z⟩ := z; exact z) fun _ _ e => e) a.quiet hs
theorem R_newList {xs : List Value} {Q : Value → Shared → Prop} (a : Act w A env G outer) (S : St G Z vs mt s) (hz : xs.length ≤ sizeLine)
    (h : ∀ l s', St G Z vs ((l, Lo xs 0) :: mt) s' → Fresh G Z l → Q (.ref l) s') : wpAny (model P w) A (newList xs) Q E s :=
  wpAny_newObj_type (h _ _ (S.push a _ rfl _) (a.fresh S no_size)) (by show xs.toArray.size ≤ sizeLine; rw [List.size_toArray]; exact hz)
theorem R_newTuple {xs : List Value} {Q : Value → Shared → Prop} (a : Act w A env G outer) (S : St G Z vs mt s) (hz : xs.length ≤ sizeLine)
    (h : ∀ l s', St G Z vs ((l, To xs 0) :: mt) s' → Fresh G Z l → Q (.ref l) s') : wpAny (model P w) A (newTuple xs) Q E s :=
  wpAny_newObj_type (h _ _ (S.push a _ rfl _) (a.fresh S no_size)) (by show xs.toArray.size ≤ sizeLine; rw [List.size_toArray]; exact hz)
theorem R_append {l : Addr} {xs : List Value} {n : Nat} {x : Value} {mt' : List (Addr × Obj)} {Q : Value → Shared → Prop} (S : St G Z vs mt s) (c : Chg l (Lo xs n) (Lo (xs ++ [x]) (n + 1)) mt mt') (hz : xs.length ≤ sizeLine)
    (h : ∀ s', St G Z vs mt' s' → Q .none s') : wpAny (model P w) A (call (.builtin "list.append") [.ref l, x]) Q E s := by
  refine append_at (S.mu _ c.mem).1 (fun h' hs ho => h _ (S.chg (tk := s.toks) c hs ?_)) (by rw [List.size_toArray]; exact hz)
  rw [ho]; simp
theorem St.isList {l : Addr} {xs : List Value} {n : Nat} (S : St G Z vs mt s) (hm : Has l (Lo xs n) mt) : s.heap.IsList l xs.toArray := ⟨_, S.has hm, rfl, n, rfl⟩
theorem St.isListZ {l : Addr} {xs : List Value} {n : Nat} (S : St G Z vs mt s) (hm : Z l (Lo xs n)) : s.heap.IsList l xs.toArray := ⟨_, S.z _ _ hm, rfl, n, rfl⟩
theorem R_addList {l b : Addr} {xs ys : List Value} {Q : Value → Shared → Prop} (a : Act w A env G outer) (S : St G Z vs mt s) (hl : s.heap.IsList l xs.toArray) (hb : s.heap.IsList b ys.toArray) (hz : xs.length + ys.length ≤ sizeLine)
    (h : ∀ l' s', St G Z vs ((l', Lo (xs ++ ys) 0) :: mt) s' → Fresh G Z l' → Q (.ref l') s') : wpAny (model P w) A (binaryOp .Add (.ref l) (.ref b)) Q E s := by
  obtain ⟨⟨cls, dd, data, sl⟩, ho, hc, n, hd⟩ := hl
  obtain ⟨⟨cls2, dd2, data2, sl2⟩, ho2, hc2, n2, hd2⟩ := hb
  simp only at hc hd hc2 hd2
  subst hc hd hc2 hd2
  refine concat_meets ⟨_, ho, rfl⟩ ⟨_, ho2, rfl⟩ noFill_list_add seq_list_add PySem.F.slot_list_add PySem.F.entry_list_add (PySem.F.args_list_add_2 _ _) (list_addW l b xs.toArray ys.toArray n n2 dd dd2 sl sl2 (by simpa using hz)) ⟨ho, ho2, ?_⟩
  rw [show xs.toArray ++ ys.toArray = (xs ++ ys).toArray from by simp]
  exact h _ _ (S.push a _ rfl _) (a.fresh S no_size)
end
section
variable {w : World} {A : Around} {env : Env} {G : Gh} {outer : List Env} {Z : Zt} {vs : List (Option Value)} {mt : List (Addr × Obj)} {s : Shared} {E : Value → Shared → Prop} {Q : Flow → Shared → Prop} {rest : List Stmt}
noncomputable def Nx (w : World) (A : Around) (env : Env) (rest : List Stmt) (Q : Flow → Shared → Prop) (E : Value → Shared → Prop) (f : Flow) (s : Shared) : Prop := match f with
  | .next => wpAny (model P w) A (execs rest env) Q E s
  | f => Q f s
theorem Nx.next (h : wpAny (model P w) A (execs rest env) Q E s) : Nx w A env rest Q E .next s := h
theorem Nx.ret {v : Value} (h : Q (.ret v) s) : Nx w A env rest Q E (.ret v) s := h
theorem X_nil (h : Q .next s) : wpAny (model P w) A (execs [] env) Q E s := wpAny_execs_nil h
theorem X_cons {st : Stmt} (h : wpAny (model P w) A (exec st env) (Nx w A env rest Q E) E s) : wpAny (model P w) A (execs (st :: rest) env) Q E s :=
  wpAny_execs_cons (wpAny_mono h (fun f _ z => by cases f <;> exact z) fun _ _ e => e)
theorem X_assign {x : Str} {xp pos : Pos} {value : PySem.Expr} (a : Act w A env G outer) {nm : List Str} (hnm : G.nm = nm)
    (hs : swapsWith value (some (.Name x xp)) pos.line env = pure false)
    (h : wpAny (model P w) A (eval value env) (KSet G nm x fun s'' => wpAny (model P w) A (execs rest env) Q E s'') E s) :
    wpAny (model P w) A (execs (.Assign [.Name x xp] value pos :: rest) env) Q E s := X_cons (R_assign a hnm hs h)
theorem X_expr {e : PySem.Expr} {pos : Pos} (a : Act w A env G outer) (hs : swapsWith e none pos.line env = pure false)
    (h : wpAny (model P w) A (eval e env) (fun v s' => v = .none ∧ wpAny (model P w) A (execs rest env) Q E s') E s) : wpAny (model P w) A (execs (.Expr e pos :: rest) env) Q E s :=
  X_cons (R_exprN a hs h)
theorem X_ret {e : PySem.Expr} {pos : Pos} (h : wpAny (model P w) A (eval e env) (fun v s' => Q (.ret v) s') E s) : wpAny (model P w) A (execs (.Return (some e) pos :: rest) env) Q E s :=
  X_cons (wpAny_Return_some h)
theorem X_if {test : PySem.Expr} {body orelse : List Stmt} {pos : Pos}
    (h : wpAny (model P w) A (isTrue test env (eval test env)) (fun b s' => if b = true then wpAny (model P w) A (execs body env) (Nx w A env rest Q E) E s' else wpAny (model P w) A (execs orelse env) (Nx w A env rest Q E) E s') E s) :
    wpAny (model P w) A (execs (.If test body orelse pos :: rest) env) Q E s := X_cons (wpAny_If h)
noncomputable def Lp (J : Shared → Prop) (K : Shared → Prop) (Q : Flow → Shared → Prop) (f : Flow) (s : Shared) : Prop := match f with
  | .next => J s
  | .cont => J s
  | .brk => K s
  | .ret v => Q (.ret v) s
noncomputable abbrev Elp (w : World) (A : Around) (env : Env) (E : Value → Shared → Prop) : Value → Shared → Prop := notedBy (model P w) A env fun e s' => cameBackBy (model P w) A env E e s'
theorem X_while {test : PySem.Expr} {body : List Stmt} {pos : Pos} (a : Act w A env G outer) (I : Nat → Shared → Prop) (n : Nat) (h0 : I n s)
    (turn : ∀ n s, I n s → wpAny (model P w) A (isTrue test env (eval test env)) (fun b s' => if b = true then wpAny (model P w) A (execs body env) (Lp (fun s'' => ∃ m, m < n ∧ I m s'') (fun s'' => wpAny (model P w) A (execs rest env) Q E s'') Q) (Elp w A env E) s'
      else wpAny (model P w) A (execs rest env) Q E s') (Elp w A env E) s) :
    wpAny (model P w) A (execs (.While test body [] pos :: rest) env) Q E s := by
  refine X_cons (wpAny_While ?_)
  have hm : A.mark none = A := by obtain ⟨hd, d, fr, gs, u⟩ := A; rfl
  refine codeAny_whileLoop I (fun n s hI => ?_) n h0
  refine wpAny_mono (turn n s hI) (fun b s' z => ?_) fun _ _ e => e
  cases b with
  | true =>
    simp only [if_true] at z ⊢
    refine wpAny_mono z (fun f s'' y => ?_) fun _ _ e => e
    cases f <;> exact y
  | false =>
    simp only [Bool.false_eq_true, if_false] at z ⊢
    exact wpAny_execs_nil z
theorem X_Name {x : Str} {p : Pos} {args : List PySem.Expr} {pos : Pos} {Q : Value → Shared → Prop}
    (h : wpAny (model P w) A (eval (.Name x p) env) (fun f s₁ => wpAny (model P w) A (callWith pos f [] (backTo pos (starEach args env)) []) Q E s₁) E s) :
    wpAny (model P w) A (eval (.Call (.Name x p) args [] pos) env) Q E s := Call_Name rfl h
end
section
variable {w : World} {A : Around} {env : Env} {G : Gh} {outer : List Env} {Z : Zt} {vs : List (Option Value)} {mt : List (Addr × Obj)} {s : Shared} {E : Value → Shared → Prop}
theorem V_cmp {l r : PySem.Expr} {op : CmpOp} {pos : Pos} {Q : Value → Shared → Prop} (hm : behindInMarks op r = false)
    (h : wpAny (model P w) A (eval l env) (fun a s₁ => wpAny (model P w) A (eval r env) (fun b s₂ => wpAny (model P w) A (compareOp op a b) Q E s₂) E s₁) E s) :
    wpAny (model P w) A (eval (.Compare l [op] [r] pos) env) Q E s := wpAny_Compare1 h hm
theorem V_tcmp {l r : PySem.Expr} {op : CmpOp} {pos : Pos} {whole : Sem Value} {Q : Bool → Shared → Prop} (hm : behindInMarks op r = false)
    (h : wpAny (model P w) A (eval l env) (fun a s₁ => wpAny (model P w) A (eval r env) (fun b s₂ => wpAny (model P w) A (compareOp op a b) (fun c s₃ => wpAny (model P w) A (truthy c) Q E s₃) E s₂) E s₁) E s) :
    wpAny (model P w) A (isTrue (.Compare l [op] [r] pos) env whole) Q E s := wpAny_isTrue_Compare1 h hm
theorem V_items {pos : Pos} {e : PySem.Expr} {rest : List PySem.Expr} {Q : List Value → Shared → Prop} (he : starEach (e :: rest) env = (false, eval e env) :: starEach rest env)
    (h : wpAny (model P w) A (eval e env) (fun v s₁ => wpAny (model P w) A (spliced (backTo pos (starEach rest env))) (fun vs s₂ => Q (v :: vs) s₂) E s₁) E s) :
    wpAny (model P w) A (spliced (backTo pos (starEach (e :: rest) env))) Q E s := wpAny_items_cons h he
theorem V_ctype {pos : Pos} {T : String} {e : PySem.Expr} {rest : List PySem.Expr} {Q : Value → Shared → Prop} (he : starEach (e :: rest) env = (false, eval e env) :: starEach rest env) (hp : (backTo pos (starEach rest env)).any (·.1) = false)
    (h : wpAny (model P w) A (spliced (backTo pos (starEach (e :: rest) env))) (fun vs s₁ => wpAny (model P w) A (call (.type T) vs) Q E s₁) E s) :
    wpAny (model P w) A (callWith pos (.type T) [] (backTo pos (starEach (e :: rest) env)) []) Q E s := PyProof.Rows.callWith_type1 h he hp
theorem V_cblt {pos : Pos} {id : String} {e : PySem.Expr} {rest : List PySem.Expr} {Q : Value → Shared → Prop} (he : starEach (e :: rest) env = (false, eval e env) :: starEach rest env) (hp : (backTo pos (starEach rest env)).any (·.1) = false)
    (h : wpAny (model P w) A (spliced (backTo pos (starEach (e :: rest) env))) (fun vs s₁ => wpAny (model P w) A (call (.builtin id) vs) Q E s₁) E s) :
    wpAny (model P w) A (callWith pos (.builtin id) [] (backTo pos (starEach (e :: rest) env)) []) Q E s := PyProof.Rows.callWith_builtin1 h he hp
theorem V_cmeth {pos : Pos} {id : String} {first : List Value} {e : PySem.Expr} {rest : List PySem.Expr} {Q : Value → Shared → Prop} (he : starEach (e :: rest) env = (false, eval e env) :: starEach rest env) (hp : (backTo pos (starEach rest env)).any (·.1) = false)
    (h : wpAny (model P w) A (spliced (backTo pos (starEach (e :: rest) env))) (fun vs s₁ => wpAny (model P w) A (call (.builtin id) (first ++ vs)) Q E s₁) E s) :
    wpAny (model P w) A (callWith pos (.builtin id) first (backTo pos (starEach (e :: rest) env)) []) Q E s := callWith_method1 h he hp
theorem V_cdef {ev : Env} {pos : Pos} {f : Addr} {first : List Value} {e : PySem.Expr} {rest : List PySem.Expr} {Q : Value → Shared → Prop} (a : Act w A env G outer) (S : St G Z vs mt s) (hk : keepIn (KK w) (.ref f) = true)
    (he : starEach (e :: rest) ev = (false, eval e ev) :: starEach rest ev) (hp : (backTo pos (starEach rest ev)).any (·.1) = false)
    (h : wpAny (model P w) A (spliced (backTo pos (starEach (e :: rest) ev))) (KDef G fun vs' s₁ => wpAny (model P w) A (call (.ref f) (first ++ vs')) Q E s₁) E s) :
    wpAny (model P w) A (callWith pos (.ref f) first (backTo pos (starEach (e :: rest) ev)) []) Q E s :=
  callWith_K (a.kh S) hk (wpAny_mono h (fun _ _ q => by obtain ⟨S', z⟩ := q; exact ⟨a.kh S', z⟩) fun _ _ e => e) he hp
theorem V_cdef0 {ev : Env} {pos : Pos} {f : Addr} {first : List Value} {Q : Value → Shared → Prop} (a : Act w A env G outer) (S : St G Z vs mt s) (hk : keepIn (KK w) (.ref f) = true)
    (h : wpAny (model P w) A (call (.ref f) (first ++ [])) Q E s) : wpAny (model P w) A (callWith pos (.ref f) first (backTo pos (starEach [] ev)) []) Q E s := callWith_K0 (a.kh S) hk h
theorem V_mcall {o : PySem.Expr} {name : Str} {apos pos : Pos} {args : List PySem.Expr} {pl : Sem Bool} {Q : Value → Shared → Prop}
    (he : eval (.Call (.Attribute o name apos) args [] pos) env = (do
      let ov ← eval o env
      standAt apos.atName
      let (f, first) ← holding [ov] (getMethod ov name pl)
      callWith pos f first (backTo pos (starEach args env)) (backToKw pos (keywordEach [] env))))
    (h : wpAny (model P w) A (eval o env) (fun ov s₁ => wpAny (model P w) A (getMethod ov name pl) (fun fx s₂ => wpAny (model P w) A (callWith pos fx.1 fx.2 (backTo pos (starEach args env)) []) Q E s₂) E s₁) E s) :
    wpAny (model P w) A (eval (.Call (.Attribute o name apos) args [] pos) env) Q E s := methodCall_KW h he
end
section
variable {w : World} {A : Around} {env : Env} {G : Gh} {outer : List Env} {Z : Zt} {vs : List (Option Value)} {mt : List (Addr × Obj)} {s : Shared} {E : Value → Shared → Prop} {Q : Flow → Shared → Prop} {rest : List Stmt}
noncomputable def quietT (T : String) : Bool := !(["enumerate", "zip", "dict_itemiterator", "dict_reverseitemiterator", "odict_iterator", "itertools.zip_longest", "itertools.pairwise"].contains T)
theorem go_quiet {target : PySem.Expr} {it : Addr} {o : Obj} {T : String} {v : Value} {Q : Unit → Shared → Prop} (ho : s.heap.get? it = some o) (hc : o.cls = .type T) (hT : quietT T = true) (hQ : Q () s) :
    wpAny (model P w) A (letOwnedTupleGo target (.ref it) v) Q E s := by
  have key : ∀ a : Addr, wpAny (model P w) A (do
    let o ← load it
    match o.cls, o.data with
    | .type n, .fields vs =>
      if ["enumerate", "zip", "dict_itemiterator", "dict_reverseitemiterator", "odict_iterator", "itertools.zip_longest", "itertools.pairwise"].contains n && vs[0]? == some (rawInt a) then
        rule "for.unpacks-the-owned-tuple"
        updateField it 0 .none
    | _, _ => pure ()) Q E s := fun a => by
    refine wpAny_bind (wpAny_load ho ?_)
    rw [hc]
    cases hd : o.data <;> first | exact wpAny_pure hQ | skip
    dsimp only
    rw [if_neg]
    · exact wpAny_pure hQ
    · intro e
      rw [Bool.and_eq_true] at e
      simp only [quietT, e.1, Bool.not_true] at hT
      cases hT
  unfold letOwnedTupleGo
  cases target <;> first | exact wpAny_pure hQ | skip
  all_goals (cases v <;> first | exact wpAny_pure hQ | exact key _)
structure Steps (w : World) (A : Around) (G : Gh) (Z₁ : Zt) (it : Addr) (n : Nat) (IA : Nat → Obj → Prop) (V : Nat → Value → Prop) : Prop where
  free : it ∉ G.ft
  quiet : ∀ i o, IA i o → ∃ T, o.cls = .type T ∧ quietT T = true
  self : ∀ i (Z : Zt) vs mt o s (Q : Value → Shared → Prop) E, IA i o → St G Z vs ((it, o) :: mt) s → Q (.ref it) s → wpAny (model P w) A (pyIter (.ref it)) Q E s
  step : ∀ i, i < n → ∀ (Z : Zt) vs mt o s (Q : Option Value → Shared → Prop) E, (∀ a x, Z₁ a x → Z a x) → IA i o → St G Z vs ((it, o) :: mt) s → (∀ o' v s', IA (i + 1) o' → V i v → St G Z vs ((it, o') :: mt) s' → Q (some v) s') → wpAny (model P w) A (pyNext (.ref it)) Q E s
  stop : ∀ (Z : Zt) vs mt o s (Q : Option Value → Shared → Prop) E, (∀ a x, Z₁ a x → Z a x) → IA n o → St G Z vs ((it, o) :: mt) s → (∀ s', St G Z vs mt s' → Q none s') → wpAny (model P w) A (pyNext (.ref it)) Q E s
inductive Turn (G : Gh) (it : Addr) (o' : Obj) (Z₁ : Zt) (J : Nat → Zt → List (Option Value) → List (Addr × Obj) → Prop) (i : Nat) (s3 : Shared) : Prop
  | mk {Z3 : Zt} {vs3 : List (Option Value)} {mt3 : List (Addr × Obj)} (S : St G Z3 vs3 ((it, o') :: mt3) s3) (hz : ∀ a x, Z₁ a x → Z3 a x) (h : J (i + 1) Z3 vs3 mt3) : Turn G it o' Z₁ J i s3
inductive Loop (w : World) (A : Around) (env : Env) (G : Gh) (target : PySem.Expr) (body : List Stmt) (rest : List Stmt) (Q : Flow → Shared → Prop) (E : Value → Shared → Prop) (itv : Value) (s : Shared) : Prop
  | mk (it : Addr) (o : Obj) (n : Nat) (IA : Nat → Obj → Prop) (V : Nat → Value → Prop) (Z₁ : Zt) (vs₁ : List (Option Value)) (mt₁ : List (Addr × Obj)) (J : Nat → Zt → List (Option Value) → List (Addr × Obj) → Prop)
    (e : itv = .ref it) (st : Steps w A G Z₁ it n IA V) (h0 : IA 0 o) (S : St G Z₁ vs₁ ((it, o) :: mt₁) s) (hJ : J 0 Z₁ vs₁ mt₁)
    (turn : ∀ i v Z vs mt o' s', i < n → V i v → (∀ a x, Z₁ a x → Z a x) → J i Z vs mt → St G Z vs ((it, o') :: mt) s' →
      wpAny (model P w) A (assign target env v) (fun _ s'' => wpAny (model P w) A (execs body env)
        (Lp (Turn G it o' Z₁ J i) (fun s3 => wpAny (model P w) A (execs rest env) Q E s3) Q) (Elp w A env E) s'') (Elp w A env E) s')
    (after : ∀ Z vs mt s', (∀ a x, Z₁ a x → Z a x) → J n Z vs mt → St G Z vs mt s' → wpAny (model P w) A (execs rest env) Q E s') : Loop w A env G target body rest Q E itv s
theorem X_for {target iter : PySem.Expr} {body : List Stmt} {pos : Pos} (a : Act w A env G outer) (hs : ∀ x, foldedSetIterable iter env x = pure x)
    (h : wpAny (model P w) A (eval iter env) (fun x s₁ => wpAny (model P w) A (pyIter x) (Loop w A env G target body rest Q E) E s₁) E s) :
    wpAny (model P w) A (execs (.For target iter body [] pos :: rest) env) Q E s := by
  refine X_cons (wpAny_For (wpAny_mono h (fun x s₁ h₁ => wpAny_mono h₁ (fun itv s₂ h₂ => ?_) fun _ _ e => e) fun _ _ e => e) hs)
  obtain ⟨it, o, n, IA, V, Z₁, vs₁, mt₁, J, rfl, st, h0, S, hJ, turn, after⟩ := h₂
  refine codeAny_forLoop_any (fun k s => ∃ i Z vs mt o, k = n - i ∧ i ≤ n ∧ IA i o ∧ (∀ a x, Z₁ a x → Z a x) ∧ J i Z vs mt ∧ St G Z vs ((it, o) :: mt) s) (fun k s hI => ?_) n ⟨0, Z₁, vs₁, mt₁, o, rfl, Nat.zero_le _, h0, fun _ _ q => q, hJ, S⟩
  obtain ⟨i, Z, vs, mt, o, rfl, hi, hA, hz, hJ, S⟩ := hI
  rcases Nat.lt_or_ge i n with lt | ge
  · refine st.step i lt Z vs mt o s _ _ hz hA S fun o' v s' hA' hV S' => ?_
    obtain ⟨T, hT, hq⟩ := st.quiet _ _ hA'
    refine go_quiet (S'.mu _ (.head _)).1 hT hq ?_
    refine wpAny_mono (turn i v Z vs mt o' s' lt hV hz hJ S') (fun _ s'' z => wpAny_mono z (fun f s3 y => ?_) fun _ _ e => e) fun _ _ e => e
    cases f with
    | next => obtain ⟨S3, hz3, J3⟩ := y; exact ⟨n - (i + 1), Nat.sub_lt_sub_left lt (Nat.lt_succ_self i), i + 1, _, _, _, o', rfl, lt, hA', hz3, J3, S3⟩
    | cont => obtain ⟨S3, hz3, J3⟩ := y; exact ⟨n - (i + 1), Nat.sub_lt_sub_left lt (Nat.lt_succ_self i), i + 1, _, _, _, o', rfl, lt, hA', hz3, J3, S3⟩
    | brk => exact y
    | ret v => exact y
  · obtain rfl : i = n := Nat.le_antisymm hi ge
    refine st.stop Z vs mt o s _ _ hz hA S fun s' S' => ?_
    exact wpAny_execs_nil (after Z vs mt s' hz hJ S')
theorem steps_list {it l : Addr} {xs : List Value} {c : Nat} (hh : A.handled = none) (hl : Z l (Lo xs c)) (hf : it ∉ G.ft) :
    Steps w A G Z it xs.length (fun i o => o.cls = .type "list_iterator" ∧ o.data = .fields #[.ref l, .int i 0]) (fun i v => xs[i]? = some v) where
  free := hf
  quiet := fun i o h => ⟨_, h.1, by decide⟩
  self := fun i Z vs mt o s Q E h S k => wpAny_pyIter_listiter ⟨o, (S.mu _ (.head _)).1, h.1, h.2⟩ k
  step := fun i hi Z' vs mt o s Q E hz ⟨hc, hd⟩ S k => by
    have hx : xs.toArray[i]? = some xs[i] := by simp [hi]
    refine wpAny_pyNext_list_item ⟨o, (S.mu _ (.head _)).1, hc, hd⟩ (S.isListZ (hz _ _ hl)) hx fun h' ⟨o', ho', hc', hd'⟩ hs => ?_
    exact k o' _ _ ⟨hc', hd'⟩ (by simp [hi]) (S.chg (tk := s.toks) .here hs ho')
  stop := fun Z' vs mt o s Q E hz ⟨hc, hd⟩ S k =>
    wpAny_pyNext_list_end hh ⟨o, (S.mu _ (.head _)).1, hc, hd⟩ (S.isListZ (hz _ _ hl)) (by simp) fun h' hx => k _ (S.drop (tk := s.toks) hx hf)
theorem iter_list {l : Addr} {xs : List Value} {c : Nat} {Q : Value → Shared → Prop} (a : Act w A env G outer) (S : St G Z vs mt s) (hl : Z l (Lo xs c))
    (h : ∀ it s' o, (o : Obj) = { cls := .type "list_iterator", data := .fields #[.ref l, .int 0 0] } → it ∉ G.ft → St G Z vs ((it, o) :: mt) s' → Q (.ref it) s') : wpAny (model P w) A (pyIter (.ref l)) Q E s :=
  wpAny_pyIter_list (S.isListZ hl) (h _ _ _ rfl (a.fresh S no_size).2 (S.push a _ rfl s.toks))
theorem steps_range {it : Addr} {x : Int} {n : Nat} (hh : A.handled = none) (hf : it ∉ G.ft) :
    Steps w A G Z it n (fun i o => o = { cls := .type "range_iterator", dict := none, data := .fields #[rawInt (x + i), rawInt ((n : Int) - i), rawInt 1], slots := #[] }) (fun i v => ∃ t, v = .int (x + i) t) where
  free := hf
  quiet := fun i o h => ⟨"range_iterator", (by rw [h]), by decide⟩
  self := fun i Z vs mt o s Q E h S k => by subst h; exact wpAny_pyIter_rangeiter (S.mu _ (.head _)).1 k
  step := fun i hi Z' vs mt o s Q E hz hA S k => by
    subst hA
    refine wpAny_pyNext_range_item (S.mu _ (.head _)).1 (by omega) fun h' hi' hs => ?_
    refine k _ _ _ rfl ⟨_, rfl⟩ (S.chg (tk := s.toks + 1) .here hs ?_)
    rw [hi', show x + (i : Int) + 1 = x + ((i + 1 : Nat) : Int) from Int.add_assoc x i 1, show (n : Int) - i - 1 = (n : Int) - ((i + 1 : Nat) : Int) from Int.sub_sub n i 1]
  stop := fun Z' vs mt o s Q E hz hA S k => by
    subst hA
    exact wpAny_pyNext_range_end hh (S.mu _ (.head _)).1 (by wtm_at "a") fun h' hx => k _ (S.drop (tk := s.toks) hx hf)
theorem R_range1 {n : Int} {t : Tok} {Q : Value → Shared → Prop} (a : Act w A env G outer) (S : St G Z vs mt s)
    (h : ∀ r t1 t2 s', St G Z vs ((r, { cls := .type "range", data := .fields #[.int 0 t1, .int n t, .int 1 t2] }) :: mt) s' → Q (.ref r) s') : wpAny (model P w) A (call (.type "range") [.int n t]) Q E s :=
  call_range_1 (h _ _ _ _ (S.push a _ rfl _))
theorem R_range2 {m n : Int} {t u : Tok} {Q : Value → Shared → Prop} (a : Act w A env G outer) (S : St G Z vs mt s)
    (h : ∀ r t2 s', St G Z vs ((r, { cls := .type "range", data := .fields #[.int m t, .int n u, .int 1 t2] }) :: mt) s' → Q (.ref r) s') : wpAny (model P w) A (call (.type "range") [.int m t, .int n u]) Q E s :=
  call_range_2 (h _ _ _ (S.push a _ rfl _))
theorem iter_range {r : Addr} {m n : Int} {t u v : Tok} {Q : Value → Shared → Prop} (a : Act w A env G outer) (S : St G Z vs mt s) (hr : (r, ({ cls := .type "range", data := .fields #[.int m t, .int n u, .int 1 v] } : Obj)) ∈ mt) (h0 : 0 ≤ m) (h1 : m ≤ 2 ^ 40) (h2 : 0 ≤ n) (h3 : n ≤ 2 ^ 40)
    (h : ∀ it s' o, (o : Obj) = { cls := .type "range_iterator", dict := none, data := .fields #[rawInt (m + (0 : Nat)), rawInt (((n - m).toNat : Int) - (0 : Nat)), rawInt 1], slots := #[] } → it ∉ G.ft → St G Z vs ((it, o) :: mt) s' → Q (.ref it) s') : wpAny (model P w) A (pyIter (.ref r)) Q E s := by
  have hz : Builtin.Range.rangeSize m n 1 = (((n - m).toNat : Nat) : Int) := by rw [rangeSize_one]; split <;> omega
  refine wpAny_pyIter_range (S.mu _ hr).1 ?_ ?_
  · have f : ∀ k : Int, 0 ≤ k → k ≤ 2 ^ 40 + 1 → Builtin.Range.rangeFitsLong k = true := fun k q1 q2 => by
      unfold Builtin.Range.rangeFitsLong
      simp only [Bool.and_eq_true, decide_eq_true_eq]
      omega
    unfold Builtin.Range.small
    rw [hz, f m h0 (Int.le_trans h1 (by decide)), f n h2 (Int.le_trans h3 (by decide)), f 1 (by decide) (by decide), f _ (Int.natCast_nonneg _) (by omega)]
    simp only [Bool.and_true, Bool.true_and, Bool.or_eq_true]
    right
    rw [if_pos (by wtm_at "a")]
    exact f _ (by exact linI1 h2 (by wtm_at "a")) (by omega)
  · refine h _ _ _ ?_ (a.fresh S no_size).2 (S.push a _ rfl s.toks)
    rw [hz]; simp
theorem steps_bytes {it : Addr} {b : Array UInt8} {t : Tok} (hh : A.handled = none) (hf : it ∉ G.ft) :
    Steps w A G Z it b.size (fun i o => o.cls = .type "bytes_iterator" ∧ o.data = .fields #[.bytes b t, .int i 0]) (fun i v => ∃ c u, b[i]? = some c ∧ v = .int (c.toNat : Int) u) where
  free := hf
  quiet := fun i o h => ⟨_, h.1, by decide⟩
  self := fun i Z vs mt o s Q E h S k => by
    exact KBw.pyIter_self (b := b) (t := t) ⟨o, (S.mu _ (.head _)).1, h.1, h.2⟩ k
  step := fun i hi Z' vs mt o s Q E hz ⟨hc, hd⟩ S k => by
    refine KBw.next_item (b := b) (t := t) (c := b[i]) ⟨o, (S.mu _ (.head _)).1, hc, hd⟩ (by simp [hi]) fun h' ⟨o', ho', hc', hd'⟩ hs => ?_
    exact k o' _ _ ⟨hc', hd'⟩ ⟨_, _, by simp [hi], rfl⟩ (S.chg (tk := s.toks + 1) .here hs ho')
  stop := fun Z' vs mt o s Q E hz ⟨hc, hd⟩ S k =>
    KBw.next_end (b := b) (t := t) hh ⟨o, (S.mu _ (.head _)).1, hc, hd⟩ (by simp) fun h' hx => k _ (S.drop (tk := s.toks) hx hf)
theorem iter_bytes {b : Array UInt8} {t : Tok} {Q : Value → Shared → Prop} (a : Act w A env G outer) (S : St G Z vs mt s)
    (h : ∀ it s' o, (o : Obj) = { cls := .type "bytes_iterator", data := .fields #[.bytes b t, .int 0 0] } → it ∉ G.ft → St G Z vs ((it, o) :: mt) s' → Q (.ref it) s') : wpAny (model P w) A (pyIter (.bytes b t)) Q E s :=
  KBw.pyIter_bytes (h _ _ _ rfl (a.fresh S no_size).2 (S.push a _ rfl s.toks))
theorem T_name {x : Str} {xp : Pos} {v : Value} {vs' : List (Option Value)} {Q : Unit → Shared → Prop} (a : Act w A env G outer) (S : St G Z vs mt s) {nm : List Str} (hnm : G.nm = nm) (hp : Put nm vs x v vs') (h : ∀ s', St G Z vs' mt s' → Q () s') :
    wpAny (model P w) A (assign (.Name x xp) env v) Q E s := wpAny_assign_Name (R_st a S hnm hp h)
theorem T_pair {x y : Str} {xp yp pos : Pos} {k : Nat} {t : Addr} {u v : Value} {c : Nat} {vs' vs'' : List (Option Value)} {Q : Unit → Shared → Prop} (a : Act w A env G outer) (S : St G Z vs mt s) {nm : List Str} (hnm : G.nm = nm) (ht : s.heap.get? t = some (To [u, v] c))
    (hp : Put nm vs x u vs') (hq : Put nm vs' y v vs'') (h : ∀ s', St G Z vs'' mt s' → Q () s') : wpAny (model P w) A (assign (.Tuple [.Name x xp, .Name y yp] k pos) env (.ref t)) Q E s := by
  refine PySem.wpAny_assign_Tuple (items := #[u, v]) a.hnd ⟨_, ht, rfl, c, rfl⟩ rfl rfl fun h' hx => ?_
  have S' : St G Z vs mt { s with heap := h', toks := s.toks } := S.grow fun b o e => hx b o (fun q => by subst q; rw [no_size] at e; cases e) e
  refine wpAny_assignInOrder_more (T_name a S' hnm hp fun s1 S1 => ?_)
  refine wpAny_assignInOrder_more (T_name a S1 hnm hq fun s2 S2 => ?_)
  exact wpAny_assignInOrder_none (h s2 S2)
end
inductive All2 {α : Type} (R : Value → α → Prop) : List Value → List α → Prop
  | nil : All2 R [] []
  | cons {v : Value} {x : α} {vs : List Value} {xs : List α} : R v x → All2 R vs xs → All2 R (v :: vs) (x :: xs)
theorem All2.length {α : Type} {R : Value → α → Prop} {vs : List Value} {xs : List α} (h : All2 R vs xs) : vs.length = xs.length := by
  induction h with
  | nil => rfl
  | cons _ _ ih => exact congrArg Nat.succ ih
theorem All2.mono {α : Type} {R R' : Value → α → Prop} (k : ∀ v x, R v x → R' v x) {vs : List Value} {xs : List α} (h : All2 R vs xs) : All2 R' vs xs := by
  induction h with
  | nil => exact .nil
  | cons h _ ih => exact .cons (k _ _ h) ih
theorem All2.get {α : Type} {R : Value → α → Prop} {vs : List Value} {xs : List α} (h : All2 R vs xs) {i : Nat} {v : Value} (e : vs[i]? = some v) : ∃ x, xs[i]? = some x ∧ R v x := by
  induction h generalizing i with
  | nil => cases e
  | cons h _ ih => cases i with
    | zero => cases e; exact ⟨_, rfl, h⟩
    | succ i => exact ih e
theorem All2.get' {α : Type} {R : Value → α → Prop} {vs : List Value} {xs : List α} (h : All2 R vs xs) {i : Nat} {x : α} (e : xs[i]? = some x) : ∃ v, vs[i]? = some v ∧ R v x := by
  induction h generalizing i with
  | nil => cases e
  | cons h _ ih => cases i with
    | zero => cases e; exact ⟨_, rfl, h⟩
    | succ i => exact ih e
theorem All2.append {α : Type} {R : Value → α → Prop} {vs ws : List Value} {xs ys : List α} (h : All2 R vs xs) (h' : All2 R ws ys) : All2 R (vs ++ ws) (xs ++ ys) := by
  induction h with
  | nil => exact h'
  | cons h _ ih => exact .cons h ih
theorem All2.snoc {α : Type} {R : Value → α → Prop} {vs : List Value} {xs : List α} {v : Value} {x : α} (h : All2 R vs xs) (h' : R v x) : All2 R (vs ++ [v]) (xs ++ [x]) := h.append (.cons h' .nil)
noncomputable def IntV (v : Value) (n : Nat) : Prop := ∃ t, v = .int (n : Int) t
noncomputable def BytesV (v : Value) (b : List UInt8) : Prop := ∃ t, v = .bytes b.toArray t
inductive PairV (Z : Zt) (v : Value) (p : Nat × Nat) : Prop
  | mk (a : Addr) (t1 t2 : Tok) (c : Nat) : v = .ref a → Z a (To [.int (p.1 : Int) t1, .int (p.2 : Int) t2] c) → PairV Z v p
inductive ListV {α : Type} (R : Value → α → Prop) (Z : Zt) (v : Value) (xs : List α) : Prop
  | mk (a : Addr) (vs : List Value) (c : Nat) : v = .ref a → Z a (Lo vs c) → All2 R vs xs → ListV R Z v xs
noncomputable abbrev RowV (Z : Zt) : Value → List (Nat × Nat) → Prop := ListV (PairV Z) Z
noncomputable abbrev StageV (Z : Zt) : Value → List (List (Nat × Nat)) → Prop := ListV (RowV Z) Z
noncomputable abbrev BytesLV (Z : Zt) : Value → List (List UInt8) → Prop := ListV BytesV Z
theorem PairV.mono {Z Z' : Zt} (k : ∀ a o, Z a o → Z' a o) {v : Value} {p : Nat × Nat} : PairV Z v p → PairV Z' v p := by rintro ⟨a, t1, t2, c, e, h⟩; exact ⟨a, t1, t2, c, e, k _ _ h⟩
theorem ListV.mono {α : Type} {R R' : Value → α → Prop} {Z Z' : Zt} (k : ∀ a o, Z a o → Z' a o) (kr : ∀ v x, R v x → R' v x) {v : Value} {xs : List α} : ListV R Z v xs → ListV R' Z' v xs := by rintro ⟨a, vs, c, e, h, hx⟩; exact ⟨a, vs, c, e, k _ _ h, hx.mono kr⟩
theorem RowV.mono {Z Z' : Zt} (k : ∀ a o, Z a o → Z' a o) {v : Value} {p : List (Nat × Nat)} : RowV Z v p → RowV Z' v p := ListV.mono k fun _ _ => PairV.mono k
theorem StageV.mono {Z Z' : Zt} (k : ∀ a o, Z a o → Z' a o) {v : Value} {p : List (List (Nat × Nat))} : StageV Z v p → StageV Z' v p := ListV.mono k fun _ _ => RowV.mono k
theorem BytesLV.mono {Z Z' : Zt} (k : ∀ a o, Z a o → Z' a o) {v : Value} {p : List (List UInt8)} : BytesLV Z v p → BytesLV Z' v p := ListV.mono k fun _ _ h => h
section
variable {w : World} {A : Around} {env : Env} {G : Gh} {outer : List Env} {Z : Zt} {vs : List (Option Value)} {mt : List (Addr × Obj)} {s : Shared} {E : Value → Shared → Prop}
theorem R_len {l : Addr} {xs : List Value} {c : Nat} {Q : Value → Shared → Prop} (S : St G Z vs mt s) (hl : Z l (Lo xs c)) (hz : xs.length ≤ sizeLine) (h : ∀ t s', St G Z vs mt s' → Q (.int (xs.length : Int) t) s') :
    wpAny (model P w) A (call (.builtin "len") [.ref l]) Q E s :=
  call_len_list (S.isListZ hl) (by rw [List.size_toArray]; rw [sizeLine_eq] at hz; omega) (by rw [List.size_toArray]; exact h _ _ S.tok)
theorem R_lenB {b : List UInt8} {t : Tok} {Q : Value → Shared → Prop} (S : St G Z vs mt s) (hz : b.length ≤ sizeLine) (h : ∀ t s', St G Z vs mt s' → Q (.int (b.length : Int) t) s') :
    wpAny (model P w) A (call (.builtin "len") [.bytes b.toArray t]) Q E s :=
  len_bytes (by rw [List.size_toArray]; rw [sizeLine_eq] at hz; exact lin1 hz (by wtm_at "a")) (by rw [List.size_toArray]; exact h _ _ S.tok)
theorem R_badd {b c : List UInt8} {t u : Tok} {Q : Value → Shared → Prop} (S : St G Z vs mt s) (hz : b.length + c.length ≤ sizeLine) (h : ∀ t s', St G Z vs mt s' → Q (.bytes (b ++ c).toArray t) s') :
    wpAny (model P w) A (binaryOp .Add (.bytes b.toArray t) (.bytes c.toArray u)) Q E s :=
  KBy.add_bytes (by rw [List.size_toArray, List.size_toArray]; exact hz) fun t' k => by rw [List.append_toArray]; exact h _ _ S.tok
theorem V_fn {ev : Env} {pos : Pos} {f : Addr} {e : PySem.Expr} {rest : List PySem.Expr} {Q : Value → Shared → Prop} (a : Act w A env G outer) (S : St G Z vs mt s) (hk : keepIn (KK w) (.ref f) = true)
    (he : starEach (e :: rest) ev = (false, eval e ev) :: starEach rest ev) (hp : (backTo pos (starEach rest ev)).any (·.1) = false)
    (h : wpAny (model P w) A (spliced (backTo pos (starEach (e :: rest) ev))) (KDef G fun vs' s₁ => wpAny (model P w) A (call (.ref f) vs') Q E s₁) E s) :
    wpAny (model P w) A (callWith pos (.ref f) [] (backTo pos (starEach (e :: rest) ev)) []) Q E s :=
  callWith_K (a.kh S) hk (wpAny_mono h (fun _ _ q => by obtain ⟨S', z⟩ := q; exact ⟨a.kh S', z⟩) fun _ _ e => e) he hp
end
section
variable {w : World} {A : Around} {env : Env} {G : Gh} {outer : List Env} {Z : Zt} {vs : List (Option Value)} {mt : List (Addr × Obj)} {s : Shared} {E : Value → Shared → Prop}
theorem V_sub {value slice : PySem.Expr} {pos : Pos} {Q : Value → Shared → Prop}
    (h : wpAny (model P w) A (eval value env) (fun o s₁ => wpAny (model P w) A (eval slice env) (fun i s₂ => wpAny (model P w) A (subscriptTail value slice o i) Q E s₂) E s₁) E s) :
    wpAny (model P w) A (eval (.Subscript value slice pos) env) Q E s := Subscript_ h
theorem T_list {value slice : PySem.Expr} {l : Addr} {xs : List Value} {k : Int} {i : Nat} {t : Tok} {x : Value} {ops : List Value} {Q : Value → Shared → Prop}
    (hs : subscripted slice false (.ref l) (.int k t) = operate ops (getItem (.ref l) (.int k t))) (hl : s.heap.IsList l xs.toArray) (hk : k = i) (hf : i < 2 ^ 63) (hx : xs[i]? = some x) (h : Q x s) :
    wpAny (model P w) A (subscriptTail value slice (.ref l) (.int k t)) Q E s :=
  tail_any hl.typeIs PySem.F.slot_list_getitem.lookup (wpAny_getItem_list hl (by omega) (by omega) (by subst hk; simpa using hx) h) hs
theorem T_list1 {value slice : PySem.Expr} {l : Addr} {xs : List Value} {t : Tok} {x : Value} {ops : List Value} {Q : Value → Shared → Prop}
    (hs : subscripted slice false (.ref l) (.int (-1) t) = operate ops (getItem (.ref l) (.int (-1) t))) (hl : s.heap.IsList l (xs ++ [x]).toArray) (h : Q x s) :
    wpAny (model P w) A (subscriptTail value slice (.ref l) (.int (-1) t)) Q E s :=
  tail_any hl.typeIs PySem.F.slot_list_getitem.lookup (wpAny_getItem_list_neg hl (by decide) (by simp; omega) (by decide) (by
    have : (-1 + (((xs ++ [x]).toArray.size : Nat) : Int)).toNat = xs.length := by simp; omega
    rw [this]; simp) h) hs
theorem T_tup {value slice : PySem.Expr} {l : Addr} {xs : List Value} {n : Nat} {k : Int} {i : Nat} {t : Tok} {x : Value} {ops : List Value} {Q : Value → Shared → Prop}
    (hs : subscripted slice false (.ref l) (.int k t) = operate ops (getItem (.ref l) (.int k t))) (hl : s.heap.get? l = some (To xs n)) (hk : k = i) (hf : i < 2 ^ 63) (hx : xs[i]? = some x) (h : Q x s) :
    wpAny (model P w) A (subscriptTail value slice (.ref l) (.int k t)) Q E s := by
  have ht : IsTup s.heap l xs.toArray := ⟨_, hl, rfl, n, rfl⟩
  have hi : i < xs.length := (List.getElem?_eq_some_iff.mp hx).1
  refine tail_any ht.typeIs PySem.F.slot_tuple_getitem.lookup (getItem_tuple (j := i) ht (by omega) (by omega) ?_ (by simpa using hx) h) hs
  have h1 : ¬ k < 0 := by omega
  have h2 : k < (xs.length : Int) := by omega
  simp [seqIndex?, h1, h2, show k.toNat = i by omega, show 0 ≤ k by exact linI1 (Int.not_lt.mp h1) (by wtm_at "a")]
theorem T_dictS {value slice : PySem.Expr} {d : Addr} {o : Obj} {kvs : List (Str × Value)} {x : Str} {t : Tok} {v : Value} {ops : List Value} {Q : Value → Shared → Prop}
    (hs : subscripted slice false (.ref d) (.str x t) = operate ops (getItem (.ref d) (.str x t))) (S : St G Z vs mt s) (ho : s.heap.get? d = some o) (hd : o.IsDictOf (strKind P w) kvs) (hv : valueAt kvs x = some v) (h : ∀ s', St G Z vs mt s' → Q v s') :
    wpAny (model P w) A (subscriptTail value slice (.ref d) (.str x t)) Q E s :=
  have hm := (Heap.dictOf_iff.mpr ⟨o, ho, hd⟩).mapOf
  tail_any hm.typeIs PySem.slot_dict_getitem.lookup (wpAny_getItem_of (strKind_is _ _ _ _) hm hv (h _ S.tok)) hs
noncomputable def lk : List (Str × Value) → Str → Option Value
  | [], _ => none
  | (k, v) :: r, x => if k = x then some v else lk r x
theorem lk_eq (kvs : List (Str × Value)) (x : Str) : valueAt kvs x = lk kvs x := by
  induction kvs with
  | nil => rfl
  | cons p r ih =>
    obtain ⟨k, v⟩ := p
    unfold valueAt at ih ⊢
    rw [List.find?_cons, lk]
    by_cases h : k = x
    · rw [decide_eq_true (show (k, v).1 = x from h), if_pos h]; rfl
    · rw [decide_eq_false (show ¬ (k, v).1 = x from h), if_neg h]; exact ih
theorem T_dict {value slice : PySem.Expr} {d : Addr} {o : Obj} {kvs : List (Str × Value)} {x : Str} {t : Tok} {v : Value} {ops : List Value} {Q : Value → Shared → Prop}
    (hs : subscripted slice false (.ref d) (.str x t) = operate ops (getItem (.ref d) (.str x t))) (S : St G Z vs mt s) (ho : s.heap.get? d = some o) (hd : o.IsDictOf (strKind P w) kvs) (hv : lk kvs x = some v) (h : ∀ s', St G Z vs mt s' → Q v s') :
    wpAny (model P w) A (subscriptTail value slice (.ref d) (.str x t)) Q E s := T_dictS hs S ho hd ((lk_eq _ _).trans hv) h
noncomputable def sto : List (Str × Value) → Str → Value → List (Str × Value)
  | [], x, v => [(x, v)]
  | (k, u) :: r, x, v => if k = x then (k, v) :: r else (k, u) :: sto r x v
theorem sto_eq (kvs : List (Str × Value)) (x : Str) (v : Value) (nd : (kvs.map (·.1)).Nodup) : stored kvs x v = sto kvs x v := by
  induction kvs with
  | nil => rfl
  | cons p r ih =>
    obtain ⟨k, u⟩ := p
    rw [List.map_cons, List.nodup_cons] at nd
    have ih := ih nd.2
    unfold stored at ih ⊢
    rw [List.any_cons, List.map_cons, sto]
    by_cases h : k = x
    · subst h
      rw [decide_eq_true (rfl : (k, u).1 = k), Bool.true_or, if_pos rfl, if_pos rfl, if_pos rfl, map_store_of_not_mem r k v nd.1]
    · rw [decide_eq_false (show ¬ (k, u).1 = x from h), Bool.false_or, if_neg h, if_neg (show ¬ (k, u).1 = x from h), ← ih]
      by_cases q : (r.any fun kv => decide (kv.1 = x)) = true
      · rw [if_pos q, if_pos q]
      · rw [if_neg q, if_neg q]; rfl
theorem IsDictOf.nd {o : Obj} {kvs : List (Str × Value)} (h : o.IsDictOf (strKind P w) kvs) : (kvs.map (·.1)).Nodup := by obtain ⟨_, _, _, _, _, _, n⟩ := h; exact n
theorem T_bytesI {value slice : PySem.Expr} {b : List UInt8} {t u : Tok} {k : Int} {i : Nat} {ops : List Value} {Q : Value → Shared → Prop}
    (hs : subscripted slice false (.bytes b.toArray t) (.int k u) = operate ops (getItem (.bytes b.toArray t) (.int k u))) (S : St G Z vs mt s) (hb : b.length ≤ 1099511627776) (hk : k = i) (hi : i < b.length) (h : ∀ t s', St G Z vs mt s' → Q (.int ((b.getD i 0).toNat : Int) t) s') :
    wpAny (model P w) A (subscriptTail value slice (.bytes b.toArray t) (.int k u)) Q E s := by
  subst hk
  refine tail_any (typeIs_bytes _ _ _) FB.slot_bytes_getitem.lookup (getItem_bytes hb (by omega) (by omega) ?_) hs
  exact h _ _ S.tok
theorem set_dictS {d : Addr} {o : Obj} {kvs : List (Str × Value)} {x : Str} {t : Tok} {v : Value} {Q : Unit → Shared → Prop} (S : St G Z vs ((d, o) :: mt) s) (hd : o.IsDictOf (strKind P w) kvs) (hz : kvs.length ≤ sizeLine)
    (h : ∀ o' s', o'.IsDictOf (strKind P w) (stored kvs x v) → St G Z vs ((d, o') :: mt) s' → Q () s') :
    wpAny (model P w) A (setItem (.ref d) (.str x t) v) Q E s := by
  refine wpAny_setItem_pairs (strKind_is _ _ _ _) (Heap.dictOf_iff.mpr ⟨o, (S.mu _ (.head _)).1, hd⟩) (fun h' hd' hs => ?_) hz
  obtain ⟨o', ho', hd'⟩ := Heap.dictOf_iff.mp hd'
  exact h o' _ hd' (S.chg (tk := s.toks + 1) .here hs ho')
theorem set_dict {d : Addr} {o : Obj} {kvs kvs' : List (Str × Value)} {x : Str} {t : Tok} {v : Value} {Q : Unit → Shared → Prop} (S : St G Z vs ((d, o) :: mt) s) (hd : o.IsDictOf (strKind P w) kvs) (hz : kvs.length ≤ sizeLine) (hk : sto kvs x v = kvs')
    (h : ∀ o' s', o'.IsDictOf (strKind P w) kvs' → St G Z vs ((d, o') :: mt) s' → Q () s') :
    wpAny (model P w) A (setItem (.ref d) (.str x t) v) Q E s :=
  set_dictS S hd hz fun o' s' hd' S' => h o' s' (hk ▸ sto_eq kvs x v (IsDictOf.nd hd) ▸ hd') S'
theorem R_pow2 {n : Nat} {t u : Tok} {Q : Value → Shared → Prop} (S : St G Z vs mt s) (hn : n ≤ 1000000) (h : ∀ t s', St G Z vs mt s' → Q (.int ((2 ^ n : Nat) : Int) t) s') : wpAny (model P w) A (binaryOp .Pow (.int 2 t) (.int (n : Int) u)) Q E s := by
  refine pow_int_small (by omega) (by omega) (by decide) ?_
  have := h s.toks { s with toks := s.toks + 1 } S.tok
  rw [show ((2 ^ n : Nat) : Int) = 2 ^ (n : Int).toNat by simp] at this
  exact this
theorem fmodN (a b : Nat) : Int.fmod (a : Int) (b : Int) = ((a % b : Nat) : Int) := by
  rw [Int.fmod_eq_emod_of_nonneg _ (by omega)]; rfl
theorem fdivN (a b : Nat) : Int.fdiv (a : Int) (b : Int) = ((a / b : Nat) : Int) := by
  rw [Int.fdiv_eq_ediv_of_nonneg _ (by omega)]; rfl
theorem R_modN {a b : Nat} {t u : Tok} {Q : Value → Shared → Prop} (S : St G Z vs mt s) (hb : 0 < b) (h : ∀ t s', St G Z vs mt s' → Q (.int ((a % b : Nat) : Int) t) s') : wpAny (model P w) A (binaryOp .Mod (.int (a : Int) t) (.int (b : Int) u)) Q E s :=
  R_mod S (by omega) (by rw [fmodN]; exact h)
theorem R_fdivN {a b : Nat} {t u : Tok} {Q : Value → Shared → Prop} (S : St G Z vs mt s) (hb : 0 < b) (hb' : b < 2 ^ 30) (h : ∀ t s', St G Z vs mt s' → Q (.int ((a / b : Nat) : Int) t) s') : wpAny (model P w) A (binaryOp .FloorDiv (.int (a : Int) t) (.int (b : Int) u)) Q E s :=
  R_fdiv S (by omega) (PyProof.noPylong_small (by omega)) (by rw [fdivN]; exact h)
theorem R_mulS {a b : Int} {t u : Tok} {Q : Value → Shared → Prop} (S : St G Z vs mt s) (h1 : -(2 ^ 64) < a) (h2 : a < 2 ^ 64) (h : ∀ t s', St G Z vs mt s' → Q (.int (a * b) t) s') : wpAny (model P w) A (binaryOp .Mult (.int a t) (.int b u)) Q E s :=
  R_mul S (IntMulOk.of_left (intBits_le_64 h1 h2)) h
theorem X_asub {o i value : PySem.Expr} {p' pos : Pos} {rest : List Stmt} {Q : Flow → Shared → Prop} (hs : swapsWith value (some (.Subscript o i p')) pos.line env = pure false)
    (h : wpAny (model P w) A (eval value env) (fun v s₁ => wpAny (model P w) A (eval o env) (fun ov s₂ => wpAny (model P w) A (eval i env) (fun iv s₃ => wpAny (model P w) A (setItem ov iv v) (fun _ s₄ => wpAny (model P w) A (execs rest env) Q E s₄) E s₃) E s₂) E s₁) E s) :
    wpAny (model P w) A (execs (.Assign [.Subscript o i p'] value pos :: rest) env) Q E s := by
  refine X_cons ?_
  rw [exec_Assign_Subscript (hs := hs)]
  exact wpAny_bind (wpAny_standAt (wpAny_bind (wpAny_mono h (fun v s₁ h₁ => wpAny_bind (wpAny_mono (kas_sub h₁) (fun _ s₂ h₂ => wpAny_pure h₂) fun _ _ e => e)) fun _ _ e => e)))
theorem X_aattr {o value : PySem.Expr} {attr : Str} {p' pos : Pos} {rest : List Stmt} {Q : Flow → Shared → Prop} (hs : swapsWith value (some (.Attribute o attr p')) pos.line env = pure false)
    (h : wpAny (model P w) A (eval value env) (fun v s₁ => wpAny (model P w) A (eval o env) (fun ov s₂ => wpAny (model P w) A (setAttr ov attr v) (fun _ s₄ => wpAny (model P w) A (execs rest env) Q E s₄) E s₂) E s₁) E s) :
    wpAny (model P w) A (execs (.Assign [.Attribute o attr p'] value pos :: rest) env) Q E s := by
  refine X_cons ?_
  rw [PyProof.Rows.exec_Assign]
  refine wpAny_bind (wpAny_standAt ?_)
  rw [show swapsWithSole [.Attribute o attr p'] value pos.line env = pure false from hs]
  refine wpAny_bind (wpAny_pure ?_)
  rw [if_neg (by decide)]
  refine wpAny_bind (wpAny_mono h (fun v s₁ h₁ => ?_) fun _ _ e => e)
  refine wpAny_bind (wpAny_of_eq (a := none) rfl ?_)
  show wpAny (model P w) A (do assignAll v [assign (.Attribute o attr p') env]; pure Flow.next) _ E s₁
  exact wpAny_bind (wpAny_mono (kas_attr h₁) (fun _ _ x => wpAny_pure x) fun _ _ e => e)
theorem X_atup {elts : List PySem.Expr} {k : Nat} {tpos pos : Pos} {value : PySem.Expr} {rest : List Stmt} {Q : Flow → Shared → Prop}
    (hs : swapsWithSole [.Tuple elts k tpos] value pos.line env = pure false) (hw : swappedStores [.Tuple elts k tpos] value env = pure none)
    (h : wpAny (model P w) A (eval value env) (fun v s₁ => wpAny (model P w) A (assign (.Tuple elts k tpos) env v) (fun _ s₂ => wpAny (model P w) A (execs rest env) Q E s₂) E s₁) E s) :
    wpAny (model P w) A (execs (.Assign [.Tuple elts k tpos] value pos :: rest) env) Q E s := X_cons (Assign_Tuple h hs hw)
theorem Act.bk (a : Act w A env G outer) : env.blockKind = .function := by
  unfold Env.blockKind; rw [a.knd]; rfl
noncomputable abbrev starry : PySem.Expr → Bool := fun | .Starred .. => true | _ => false
noncomputable abbrev swNames (env : Env) (ts : List PySem.Expr) : List Str := ts.filterMap fun
    | .Name id pos => if env.kindOf id == some .local && pos.line == (ts.head?.map (·.pos.line)).getD 0 then some id else none
    | _ => none
theorem sw_gen {env : Env} {ts vs : List PySem.Expr} {tp p : Pos} {k k2 : Nat} {names : List Str} (h1 : (!(ts.length == 2 || ts.length == 3) || vs.length != ts.length || env.blockKind != .function) = false) (h2 : (vs.any starry) = false)
    (hn : swNames env ts = names) (h3 : (names.length != ts.length || names.eraseDups.length != names.length) = false) (hf : vs.all (foldedForSure 8) = false) (hc : vs.all (constantsAlone 8) = false) :
    swappedStores [.Tuple ts k tp] (.Tuple vs k2 p) env = pure (some names) := by
  refine (if_neg (Bool.eq_false_iff.mp h1)).trans ?_
  refine (if_neg (Bool.eq_false_iff.mp h2)).trans ?_
  rw [← hn] at h3 ⊢
  refine (if_neg (Bool.eq_false_iff.mp h3)).trans ?_
  refine (if_neg (Bool.eq_false_iff.mp hf)).trans ?_
  exact (if_neg (Bool.eq_false_iff.mp hc)).trans rfl
theorem sw_folded {ts : List PySem.Expr} {tp p : Pos} {k k2 : Nat} {e1 e2 : PySem.Expr} (a : Act w A env G outer) (hf : [e1, e2].all (foldedForSure 8) = true) : swappedStores [.Tuple ts k tp] (.Tuple [e1, e2] k2 p) env = pure none := by
  have key : ∀ (c : Bool) (x : Sem (Option (List Str))), x = pure none → (if c = true then pure none else x) = (pure none : Sem (Option (List Str))) := fun c x h => by cases c; exact h; rfl
  exact key _ _ (key _ _ (key _ _ (if_pos hf)))
theorem sw_name {x : Str} {xp : Pos} {l : Nat} (hx : env.kindOf x = some .local) (hl : (xp.line == l) = true) : (if (env.kindOf x == some .local && xp.line == l) = true then some x else none) = some x := if_pos (by rw [hx, hl]; rfl)
theorem sw_two {x y : Str} {xp yp tp p : Pos} {k k2 : Nat} {e1 e2 : PySem.Expr} (a : Act w A env G outer) (hx : env.kindOf x = some .local) (hy : env.kindOf y = some .local) (hl : (yp.line == xp.line) = true) (hne : [x, y].eraseDups.length = 2)
    (hst : [e1, e2].any starry = false) (hf : [e1, e2].all (foldedForSure 8) = false) (hc : [e1, e2].all (constantsAlone 8) = false) :
    swappedStores [.Tuple [.Name x xp, .Name y yp] k tp] (.Tuple [e1, e2] k2 p) env = pure (some [x, y]) :=
  sw_gen (by rw [a.bk]; rfl) hst ((List.filterMap_cons_some (a := PySem.Expr.Name x xp) (sw_name hx (beq_self_eq_true _))).trans (congrArg (List.cons x) (List.filterMap_cons_some (a := PySem.Expr.Name y yp) (sw_name hy hl)))) (by rw [hne]; rfl) hf hc
theorem sw_three {x y z : Str} {xp yp zp tp p : Pos} {k k2 : Nat} {e1 e2 e3 : PySem.Expr} (a : Act w A env G outer) (hx : env.kindOf x = some .local) (hy : env.kindOf y = some .local) (hz : env.kindOf z = some .local) (hl : (yp.line == xp.line) = true) (hl' : (zp.line == xp.line) = true)
    (hne : [x, y, z].eraseDups.length = 3)
    (hst : [e1, e2, e3].any starry = false) (hf : [e1, e2, e3].all (foldedForSure 8) = false) (hc : [e1, e2, e3].all (constantsAlone 8) = false) :
    swappedStores [.Tuple [.Name x xp, .Name y yp, .Name z zp] k tp] (.Tuple [e1, e2, e3] k2 p) env = pure (some [x, y, z]) :=
  sw_gen (by rw [a.bk]; rfl) hst ((List.filterMap_cons_some (a := PySem.Expr.Name x xp) (sw_name hx (beq_self_eq_true _))).trans (congrArg (List.cons x) ((List.filterMap_cons_some (a := PySem.Expr.Name y yp) (sw_name hy hl)).trans (congrArg (List.cons y) (List.filterMap_cons_some (a := PySem.Expr.Name z zp) (sw_name hz hl')))))) (by rw [hne]; rfl) hf hc
theorem B_name {x : Str} {v : Value} {vs' : List (Option Value)} {Q : Unit → Shared → Prop} (a : Act w A env G outer) (S : St G Z vs mt s) {nm : List Str} (hnm : G.nm = nm) (hp : Put nm vs x v vs') (h : ∀ s', St G Z vs' mt s' → Q () s') :
    wpAny (model P w) A (bindName env x v) Q E s := wpAny_bindName (R_st a S hnm hp h)
inductive Sw2 (G : Gh) (nm : List Str) (y x : Str) (K : Shared → Prop) (v : Value) (s : Shared) : Prop
  | mk (t : Addr) (Z' : Zt) (vs' : List (Option Value)) (mt' : List (Addr × Obj)) (u1 u2 : Value) (c : Nat) (vs1 vs2 : List (Option Value)) : v = .ref t → St G Z' vs' mt' s → s.heap.get? t = some (To [u1, u2] c) → Put nm vs' y u2 vs1 → Put nm vs1 x u1 vs2 → (∀ s'', St G Z' vs2 mt' s'' → K s'') → Sw2 G nm y x K v s
inductive Tp2 (G : Gh) (nm : List Str) (x y : Str) (K : Shared → Prop) (v : Value) (s : Shared) : Prop
  | mk (t : Addr) (Z' : Zt) (vs' : List (Option Value)) (mt' : List (Addr × Obj)) (u1 u2 : Value) (c : Nat) (vs1 vs2 : List (Option Value)) : v = .ref t → St G Z' vs' mt' s → s.heap.get? t = some (To [u1, u2] c) → Put nm vs' x u1 vs1 → Put nm vs1 y u2 vs2 → (∀ s'', St G Z' vs2 mt' s'' → K s'') → Tp2 G nm x y K v s
inductive Sw3 (G : Gh) (nm : List Str) (z y x : Str) (K : Shared → Prop) (v : Value) (s : Shared) : Prop
  | mk (t : Addr) (Z' : Zt) (vs' : List (Option Value)) (mt' : List (Addr × Obj)) (u1 u2 u3 : Value) (c : Nat) (vs1 vs2 vs3 : List (Option Value)) : v = .ref t → St G Z' vs' mt' s → s.heap.get? t = some (To [u1, u2, u3] c) → Put nm vs' z u3 vs1 → Put nm vs1 y u2 vs2 → Put nm vs2 x u1 vs3 → (∀ s'', St G Z' vs3 mt' s'' → K s'') → Sw3 G nm z y x K v s
theorem X_sw2 {x y : Str} {xp yp tpos pos : Pos} {k : Nat} {value : PySem.Expr} {rest : List Stmt} {Q : Flow → Shared → Prop} (a : Act w A env G outer) {nm : List Str} (hnm : G.nm = nm)
    (hs : swapsWithSole [.Tuple [.Name x xp, .Name y yp] k tpos] value pos.line env = pure false) (hw : swappedStores [.Tuple [.Name x xp, .Name y yp] k tpos] value env = pure (some [x, y]))
    (h : wpAny (model P w) A (eval value env) (fun v s₁ => Sw2 G nm y x (fun s'' => wpAny (model P w) A (execs rest env) Q E s'') v s₁) E s) :
    wpAny (model P w) A (execs (.Assign [.Tuple [.Name x xp, .Name y yp] k tpos] value pos :: rest) env) Q E s := by
  refine X_cons (Assign_Tuple_swapped (wpAny_mono h (fun v s₁ h₁ => ?_) fun _ _ e => e) hs hw)
  obtain ⟨t, Z', vs', mt', u1, u2, c, vs1, vs2, rfl, S, ht, p1, p2, k⟩ := h₁
  refine PySem.wpAny_unpackItems_tuple (items := #[u1, u2]) a.hnd ⟨_, ht, rfl, c, rfl⟩ fun h' hx => ?_
  have S' : St G Z' vs' mt' { s₁ with heap := h', toks := s₁.toks } := S.grow fun b o e => hx b o (fun q => by subst q; rw [no_size] at e; cases e) e
  refine wpAny_assignInOrder_more (B_name a S' hnm p1 fun s1 S1 => ?_)
  refine wpAny_assignInOrder_more (B_name a S1 hnm p2 fun s2 S2 => ?_)
  exact wpAny_assignInOrder_none (k s2 S2)
theorem X_sw3 {x y z : Str} {xp yp zp tpos pos : Pos} {k : Nat} {value : PySem.Expr} {rest : List Stmt} {Q : Flow → Shared → Prop} (a : Act w A env G outer) {nm : List Str} (hnm : G.nm = nm)
    (hs : swapsWithSole [.Tuple [.Name x xp, .Name y yp, .Name z zp] k tpos] value pos.line env = pure false) (hw : swappedStores [.Tuple [.Name x xp, .Name y yp, .Name z zp] k tpos] value env = pure (some [x, y, z]))
    (h : wpAny (model P w) A (eval value env) (fun v s₁ => Sw3 G nm z y x (fun s'' => wpAny (model P w) A (execs rest env) Q E s'') v s₁) E s) :
    wpAny (model P w) A (execs (.Assign [.Tuple [.Name x xp, .Name y yp, .Name z zp] k tpos] value pos :: rest) env) Q E s := by
  refine X_cons (Assign_Tuple_swapped (wpAny_mono h (fun v s₁ h₁ => ?_) fun _ _ e => e) hs hw)
  obtain ⟨t, Z', vs', mt', u1, u2, u3, c, vs1, vs2, vs3, rfl, S, ht, p1, p2, p3, k⟩ := h₁
  refine PySem.wpAny_unpackItems_tuple (items := #[u1, u2, u3]) a.hnd ⟨_, ht, rfl, c, rfl⟩ fun h' hx => ?_
  have S' : St G Z' vs' mt' { s₁ with heap := h', toks := s₁.toks } := S.grow fun b o e => hx b o (fun q => by subst q; rw [no_size] at e; cases e) e
  refine wpAny_assignInOrder_more (B_name a S' hnm p1 fun s1 S1 => ?_)
  refine wpAny_assignInOrder_more (B_name a S1 hnm p2 fun s2 S2 => ?_)
  refine wpAny_assignInOrder_more (B_name a S2 hnm p3 fun s3 S3 => ?_)
  exact wpAny_assignInOrder_none (k s3 S3)
theorem X_tp2 {x y : Str} {xp yp tpos pos : Pos} {k : Nat} {value : PySem.Expr} {rest : List Stmt} {Q : Flow → Shared → Prop} (a : Act w A env G outer) {nm : List Str} (hnm : G.nm = nm)
    (hs : swapsWithSole [.Tuple [.Name x xp, .Name y yp] k tpos] value pos.line env = pure false) (hw : swappedStores [.Tuple [.Name x xp, .Name y yp] k tpos] value env = pure none)
    (h : wpAny (model P w) A (eval value env) (fun v s₁ => Tp2 G nm x y (fun s'' => wpAny (model P w) A (execs rest env) Q E s'') v s₁) E s) :
    wpAny (model P w) A (execs (.Assign [.Tuple [.Name x xp, .Name y yp] k tpos] value pos :: rest) env) Q E s := by
  refine X_atup hs hw (wpAny_mono h (fun v s₁ h₁ => ?_) fun _ _ e => e)
  obtain ⟨t, Z', vs', mt', u1, u2, c, vs1, vs2, rfl, S, ht, p1, p2, k⟩ := h₁
  exact T_pair a S hnm ht p1 p2 k
theorem V_value {e : PySem.Expr} {whole : Sem Value} {Q : Bool → Shared → Prop} (he : isTrue e env whole = (do let v ← whole; standAt e.pos; holding [v] (truthy v)))
    (h : wpAny (model P w) A whole (fun v s₁ => wpAny (model P w) A (truthy v) Q E s₁) E s) : wpAny (model P w) A (isTrue e env whole) Q E s := wpAny_isTrue_value h he
structure Well where
  cells : List Nat
  at_ : Nat
  stir : Nat
noncomputable def Well.next (W : Well) : Well := { W with at_ := W.at_ + 1 }
noncomputable def Well.draw (W : Well) (many : Nat) : Nat := match W.cells[W.at_]? with
  | some c => c % many
  | none => (W.stir + 7919 * W.at_ * W.at_ + 104729 * W.at_) % 1000003 / 5 % many
structure Well.Ok (W : Well) (n : Nat) : Prop where
  len : W.cells.length ≤ 24
  lt : ∀ c ∈ W.cells, c < 1000003
  stir : W.stir < 2 ^ 40
  at_ : W.at_ ≤ n
theorem Well.Ok.next {W : Well} {n : Nat} (h : W.Ok n) : W.next.Ok (n + 1) := ⟨h.len, h.lt, h.stir, Nat.succ_le_succ h.at_⟩
theorem Well.Ok.mono {W : Well} {n m : Nat} (h : W.Ok n) (k : n ≤ m) : W.Ok m := ⟨h.len, h.lt, h.stir, Nat.le_trans h.at_ k⟩
theorem Well.draw_lt (W : Well) {many : Nat} (h : 0 < many) : W.draw many < many := by
  unfold Well.draw
  split <;> exact Nat.mod_lt _ h
inductive WellO (w : World) (Z : Zt) (W : Well) (o : Obj) : Prop
  | mk (l : Addr) (xs : List Value) (c : Nat) (t1 t2 : Tok) : Z l (Lo xs c) → All2 IntV xs W.cells → o.IsDictOf (strKind P w) [("cells", .ref l), ("at", .int (W.at_ : Int) t1), ("stir", .int (W.stir : Int) t2)] → WellO w Z W o
theorem WellO.mono {w : World} {Z Z' : Zt} {W : Well} {o : Obj} (k : ∀ a o, Z a o → Z' a o) : WellO w Z W o → WellO w Z' W o := by rintro ⟨l, xs, c, t1, t2, h, r, q⟩; exact ⟨l, xs, c, t1, t2, k _ _ h, r, q⟩
end
theorem St.perm {G : Gh} {Z : Zt} {vs : List (Option Value)} {mt mt' : List (Addr × Obj)} {s : Shared} (S : St G Z vs mt s) (h : mt'.Perm mt) : St G Z vs mt' s :=
  { S with mu := fun p hp => S.mu p (h.subset hp), nd := (h.map _).nodup_iff.mpr S.nd }
inductive NsO (m : Str → Option Value) (o : Obj) : Prop
  | mk (es : Array DictEntry) (ep : Nat) : o.data = .dict es ep → StrKeys es → (∀ name, nsFind es name = m name) → NsO m o
theorem NsO.ns {h : Heap} {a : Addr} {m : Str → Option Value} {o : Obj} (x : NsO m o) (ho : h.get? a = some o) : h.Ns a m := by obtain ⟨es, ep, r1, r2, r3⟩ := x; exact ⟨o, es, ep, ho, r1, r2, r3⟩
theorem Heap.Ns.nsO {h : Heap} {a : Addr} {m : Str → Option Value} (x : h.Ns a m) : ∃ o, h.get? a = some o ∧ NsO m o := by obtain ⟨o, es, ep, ho, r1, r2, r3⟩ := x; exact ⟨o, ho, es, ep, r1, r2, r3⟩
noncomputable abbrev testsOf (ifs : List PySem.Expr) (cenv : Env) : Sem Bool := forIn ifs true fun c r => if r = true then do let ok ← isTrue c cenv (eval c cenv); pure (ForInStep.yield ok) else pure (ForInStep.yield r)
theorem codeAny_comp_go {w : World} {A : Around} {s : Shared} {R : Result → Shared → Prop} {elt target iter : PySem.Expr} {ifs : List PySem.Expr} {scope : Scope} {pos : Pos} {it acc : Value} {env : Env} (I : Nat → Shared → Prop)
    (turn : ∀ n s, I n s → wpAny (model P w) A (pyNext it) (fun r s₁ => match r with
      | none => R (.ok .next) s₁
      | some v => wpAny (model P w) A (letOwnedTupleGo target it v) (fun _ s₁' => wpAny (model P w) A (assign target env v) (fun _ s₂ =>
          wpAny (model P w) A (testsOf ifs env) (fun ok s₃ =>
            if ok = true then wpAny (model P w) A (eval elt env) (fun x s₄ =>
              wpAny (model P w) A (call (.builtin "list.append") [acc, x]) (fun _ s₅ => ∃ m, m < n ∧ I m s₅) (notedBy (model P w) A env fun e s' => R (.error e) s') s₄) (notedBy (model P w) A env fun e s' => R (.error e) s') s₃
            else ∃ m, m < n ∧ I m s₃) (notedBy (model P w) A env fun e s' => R (.error e) s') s₂) (notedBy (model P w) A env fun e s' => R (.error e) s') s₁') (notedBy (model P w) A env fun e s' => R (.error e) s') s₁) (notedBy (model P w) A env fun e s' => R (.error e) s') s)
    (n : Nat) (h : I n s) : codeAny (model P w) A (.compLoop (.ListComp elt [⟨target, iter, ifs, 0⟩] scope pos) 0 it acc env) R s := by
  refine codeAny_loop rfl I (fun n s hI => ?_) n h
  show wpAny _ A ((compTurn (.ListComp elt [⟨target, iter, ifs, 0⟩] scope pos) 0 it acc env).onRaise (fun x => do noteFrame x env; theTreesLotGoes x)) _ _ s
  refine wpAny_noted ?_
  rw [compTurn_list]
  refine wpAny_bind (wpAny_standAt (wpAny_bind (wpAny_mono (turn n s hI) (fun r s₁ h₁ => ?_) fun _ _ h' => h')))
  cases r with
  | none => exact wpAny_pure h₁
  | some v =>
    refine wpAny_bind (wpAny_mono h₁ (fun _ s₁' h₁' => ?_) fun _ _ h' => h')
    refine wpAny_bind (wpAny_mono h₁' (fun _ s₂ h₂ => wpAny_bind (wpAny_mono h₂ (fun ok s₃ h₃ => ?_) fun _ _ h' => h')) fun _ _ h' => h')
    cases ok with
    | false => exact wpAny_pure ⟨rfl, h₃⟩
    | true =>
      exact wpAny_bind (wpAny_bind (wpAny_mono h₃ (fun x s₄ h₄ => wpAny_bind (wpAny_mono h₄ (fun _ s₅ h₅ => wpAny_pure (wpAny_pure ⟨rfl, h₅⟩)) fun _ _ h' => h')) fun _ _ h' => h'))
section
variable {w : World} {A : Around} {env : Env} {G : Gh} {outer : List Env} {Z : Zt} {vs : List (Option Value)} {mt : List (Addr × Obj)} {s : Shared} {E : Value → Shared → Prop} {Q : Value → Shared → Prop}
inductive CTurn (G : Gh) (C it acc : Addr) (o' : Obj) (ys : List Value) (k : Nat) (Z₁ : Zt) (J : Zt → List (Option Value) → List (Addr × Obj) → Prop) (s3 : Shared) : Prop
  | mk {Z3 : Zt} {vs3 : List (Option Value)} {mt3 : List (Addr × Obj)} {m3 : Str → Option Value} {oC3 : Obj} (n : NsO m3 oC3) (S : St G Z3 vs3 ((C, oC3) :: (it, o') :: (acc, Lo ys k) :: mt3) s3) (hz : ∀ a x, Z₁ a x → Z3 a x) (h : J Z3 vs3 mt3) : CTurn G C it acc o' ys k Z₁ J s3
inductive CLoop (w : World) (A : Around) (env : Env) (G : Gh) (scope : Scope) (cl : List (Str × Addr)) (target : PySem.Expr) (ifs : List PySem.Expr) (elt : PySem.Expr) (Fin : Addr → Addr → (Str → Option Value) → Obj → Zt → List (Option Value) → List (Addr × Obj) → List Value → Nat → Prop) (itv : Value) (s : Shared) : Prop
  | mk (it : Addr) (o : Obj) (n : Nat) (IA : Nat → Obj → Prop) (V : Nat → Value → Prop) (Z₁ : Zt) (vs₁ : List (Option Value)) (mt₁ : List (Addr × Obj)) (J : Nat → Zt → List (Option Value) → List (Addr × Obj) → List Value → Prop)
    (e : itv = .ref it) (hn : n ≤ sizeLine) (st : Steps w A G Z₁ it n IA V) (h0 : IA 0 o) (S : St G Z₁ vs₁ ((it, o) :: mt₁) s) (hJ : J 0 Z₁ vs₁ mt₁ [])
    (turn : ∀ C acc i v Z vs mt ys k m oC o' s' E', i < n → V i v → (∀ a x, Z₁ a x → Z a x) → J i Z vs mt ys → NsO m oC → St G Z vs ((C, oC) :: (it, o') :: (acc, Lo ys k) :: mt) s' →
      wpAny (model P w) A (assign target (compEnvC scope cl C env) v) (fun _ s1 => wpAny (model P w) A (testsOf ifs (compEnvC scope cl C env)) (fun ok s2 =>
        if ok = true then wpAny (model P w) A (eval elt (compEnvC scope cl C env)) (fun y s3 => CTurn G C it acc o' ys k Z₁ (fun Z3 vs3 mt3 => J (i + 1) Z3 vs3 mt3 (ys ++ [y])) s3) E' s2
        else CTurn G C it acc o' ys k Z₁ (fun Z3 vs3 mt3 => J (i + 1) Z3 vs3 mt3 ys) s2) E' s1) E' s')
    (after : ∀ C acc Z vs mt ys k m oC, (∀ a x, Z₁ a x → Z a x) → J n Z vs mt ys → NsO m oC → acc ∉ G.ft → C ∉ G.ft → Fin acc C m oC Z vs mt ys k) : CLoop w A env G scope cl target ifs elt Fin itv s
inductive CInv (n : Nat) (IA : Nat → Obj → Prop) (J : Nat → Zt → List (Option Value) → List (Addr × Obj) → List Value → Prop) (Z₁ : Zt) (G : Gh) (it C acc : Addr) (k : Nat) (s : Shared) : Prop
  | mk (i : Nat) (Z : Zt) (vs : List (Option Value)) (mt : List (Addr × Obj)) (o : Obj) (ys : List Value) (c : Nat) (m : Str → Option Value) (oC : Obj) (hk : k = n - i) (hi : i ≤ n) (hy : ys.length ≤ i) (hA : IA i o) (hz : ∀ a x, Z₁ a x → Z a x) (hJ : J i Z vs mt ys) (nC : NsO m oC) (S : St G Z vs ((C, oC) :: (it, o) :: (acc, Lo ys c) :: mt) s)
theorem comp_core (a : Act w A env G outer) {scope : Scope} {cl : List (Str × Addr)} {target iter elt : PySem.Expr} {ifs : List PySem.Expr} {pos : Pos} {itv : Value} {RR : Value → Addr → Result → Shared → Prop}
    (hcell : ∀ y ∈ scope.names, y.2 ≠ .cell) (hkind : scope.kind = .function)
    (h : CLoop w A env G scope cl target ifs elt (fun acc C m oC Z vs mt ys k => NsO m oC → C ∉ G.ft → ∀ s', St G Z vs ((C, oC) :: (acc, Lo ys k) :: mt) s' → RR (.ref acc) C (.ok .next) s') itv s) :
    wpAny (model P w) A (newList []) (fun acc s₃ => wpAny (model P w) A (newFunctionEnv scope env.globals cl [] env.qual none .none (some env)) (fun cenv s₄ =>
      codeAny (model P w) A (.compStart (.ListComp elt [⟨target, iter, ifs, 0⟩] scope pos) 0 itv acc { cenv with scope := relabel scope env }) (RR acc cenv.locals) s₄) E s₃) E s := by
  obtain ⟨it, o, n, IA, V, Z₁, vs₁, mt₁, J, rfl, hn, st, h0, S, hJ, turn, after⟩ := h
  refine R_newList a S (Nat.zero_le _) fun acc s1 S1 fr1 => ?_
  refine wpAny_newFunctionEnv hcell (by intro y hy; simp at hy) (fun h₁ hns hsb => ?_) hkind
  have hC0 : s1.heap.get? s1.heap.objs.size = none := no_size
  have hk1 : ∀ b ob, s1.heap.get? b = some ob → h₁.get? b = some ob := fun b ob e => hsb.extBut b ob (fun q => by subst q; rw [no_size] at e; cases e) (Heap.get?_push_of_some _ e)
  have S2 : St G Z₁ vs₁ ((acc, Lo [] 0) :: (it, o) :: mt₁) { s1 with heap := h₁, toks := s1.toks + ([] : List (Str × Value)).length } := S1.grow hk1
  obtain ⟨oC, hoC, nC⟩ := Heap.Ns.nsO hns
  generalize hCe : s1.heap.objs.size = C at *
  have fC : Fresh G Z₁ C := a.fresh S1 hC0
  have S3 := S1.own S2 hC0 hoC (a.frl S1)
  have S4 : St G Z₁ vs₁ ((C, oC) :: (it, o) :: (acc, Lo [] 0) :: mt₁) { s1 with heap := h₁, toks := s1.toks + ([] : List (Str × Value)).length } := S3.perm (List.Perm.cons _ (List.Perm.swap ..))
  have loop : ∀ s4, St G Z₁ vs₁ ((C, oC) :: (it, o) :: (acc, Lo [] 0) :: mt₁) s4 → codeAny (model P w) A (.compLoop (.ListComp elt [⟨target, iter, ifs, 0⟩] scope pos) 0 (.ref it) (.ref acc) (compEnvC scope cl C env)) (RR (.ref acc) C) s4 := fun s4 S4 => by
    refine codeAny_comp_go (CInv n IA J Z₁ G it C acc) (fun k s hI => ?_) n ⟨0, Z₁, vs₁, mt₁, o, [], 0, _, oC, rfl, Nat.zero_le _, Nat.zero_le _, h0, fun _ _ q => q, hJ, nC, S4⟩
    obtain ⟨i, Z, vs, mt, o, ys, c, m, oC, rfl, hi, hy, hA, hz, hJ, nC, S⟩ := hI
    have Sit : St G Z vs ((it, o) :: (C, oC) :: (acc, Lo ys c) :: mt) s := S.perm (List.Perm.swap ..)
    rcases Nat.lt_or_ge i n with lt | ge
    · refine st.step i lt Z vs ((C, oC) :: (acc, Lo ys c) :: mt) o s _ _ hz hA Sit fun o' v s' hA' hV S' => ?_
      obtain ⟨T, hT, hq⟩ := st.quiet _ _ hA'
      refine go_quiet (S'.mu _ (.head _)).1 hT hq ?_
      have S'' : St G Z vs ((C, oC) :: (it, o') :: (acc, Lo ys c) :: mt) s' := S'.perm (List.Perm.swap ..)
      refine wpAny_mono (turn C acc i v Z vs mt ys c m oC o' s' _ lt hV hz hJ nC S'') (fun _ s1 z1 => wpAny_mono z1 (fun ok s2 z2 => ?_) fun _ _ e => e) fun _ _ e => e
      cases ok with
      | false =>
        simp only [Bool.false_eq_true, if_false] at z2 ⊢
        obtain ⟨n3, S3, hz3, J3⟩ := z2
        exact ⟨n - (i + 1), Nat.sub_lt_sub_left lt (Nat.lt_succ_self i), i + 1, _, _, _, o', ys, c, _, _, rfl, lt, by omega, hA', hz3, J3, n3, S3⟩
      | true =>
        simp only [if_true] at z2 ⊢
        refine wpAny_mono z2 (fun y s3 z3 => ?_) fun _ _ e => e
        obtain ⟨n3, S3, hz3, J3⟩ := z3
        refine R_append S3 (.there (.there .here)) (by exact lin3 hn hy lt (by wtm_at "a")) fun s4 S4 => ?_
        exact ⟨n - (i + 1), Nat.sub_lt_sub_left lt (Nat.lt_succ_self i), i + 1, _, _, _, o', ys ++ [y], c + 1, _, _, rfl, lt, by rw [List.length_append, List.length_singleton]; omega, hA', hz3, J3, n3, S4⟩
    · obtain rfl : i = n := Nat.le_antisymm hi ge
      refine st.stop Z vs ((C, oC) :: (acc, Lo ys c) :: mt) o s _ _ hz hA Sit fun s' S' => ?_
      exact after C acc Z vs mt ys c m oC hz hJ nC fr1.2 fC.2 nC fC.2 s' S'
  exact codeAny_compStart_list (loop _ S4) (st.self 0 Z₁ vs₁ ((C, oC) :: (acc, Lo [] 0) :: mt₁) o _ _ _ h0 (S4.perm (List.Perm.swap ..)) (loop _ S4))
theorem C_set {scope : Scope} {cl : List (Str × Addr)} {C : Addr} {x : Str} {v : Value} {m : Str → Option Value} {oC : Obj} {Q : Unit → Shared → Prop} (S : St G Z vs ((C, oC) :: mt) s) (hn : NsO m oC) (hkind : scope.kind = .function) (hx : scope.names.lookup x = some .local)
    (h : ∀ m' oC' s', NsO m' oC' → m' x = some v → (∀ y, y ≠ x → m' y = m y) → St G Z vs ((C, oC') :: mt) s' → Q () s') : wpAny (model P w) A (storeName (compEnvC scope cl C env) x v) Q E s := by
  refine wpAny_storeName_local (m := m) (lookup_relabel_local hx) (hn.ns (S.mu _ (.head _)).1) (fun h' hn' hs' => ?_) ?_
  · obtain ⟨o', ho', n'⟩ := Heap.Ns.nsO hn'
    exact h _ o' _ n' (by simp) (fun y hy => by simp [hy]) (S.chg (tk := s.toks + 1) .here hs' ho')
  · show (scope.kind == .class || (scope.kind == .module && _)) = false
    rw [hkind]; rfl
theorem C_loc {scope : Scope} {cl : List (Str × Addr)} {C : Addr} {x : Str} {pos : Pos} {v : Value} {m : Str → Option Value} {oC : Obj} {Q : Value → Shared → Prop} (S : St G Z vs mt s) (hm : Has C oC mt) (hn : NsO m oC) (hkind : scope.kind = .function) (hx : scope.names.lookup x = some .local)
    (hv : m x = some v) (hd : (x == ("__debug__" : Str)) = false) (h : Q v s) : wpAny (model P w) A (eval (.Name x pos) (compEnvC scope cl C env)) Q E s :=
  wpAny_Name (wpAny_loadName_local hkind (lookup_relabel_local hx) (hn.ns (S.has hm)) hv h) hd
theorem C_glob {scope : Scope} {cl : List (Str × Addr)} {C : Addr} {x : Str} {pos : Pos} {v : Value} {Q : Value → Shared → Prop} (a : Act w A env G outer) (S : St G Z vs mt s) (hkind : scope.kind = .function) (hx : (relabel scope env).names.lookup x = some .globalImplicit)
    (e : nsIn (KK w) mainGlobals x = some (some v)) (hd : (x == ("__debug__" : Str)) = false) (h : Q v s) : wpAny (model P w) A (eval (.Name x pos) (compEnvC scope cl C env)) Q E s := by
  obtain ⟨mean, mg, mb, T⟩ := a.top
  exact Calls.Name_function_global (env := compEnvC scope cl C env) hkind hx (Calls.loadGlobal_global (env := compEnvC scope cl C env) (show s.heap.Ns env.globals mg from a.glo ▸ T.g.keeps (a.stays S)) (mg_of a.kin T.g e) h) hd
theorem C_blt {scope : Scope} {cl : List (Str × Addr)} {C : Addr} {x : Str} {pos : Pos} {v : Value} {Q : Value → Shared → Prop} (a : Act w A env G outer) (S : St G Z vs mt s) (hkind : scope.kind = .function) (hx : (relabel scope env).names.lookup x = some .globalImplicit)
    (e : nsIn (KK w) mainGlobals x = some none) (hv : bootBuiltins x = some v) (hn : x ≠ "__name__") (hd : (x == ("__debug__" : Str)) = false) (h : Q v s) : wpAny (model P w) A (eval (.Name x pos) (compEnvC scope cl C env)) Q E s := by
  obtain ⟨mean, mg, mb, T⟩ := a.top
  exact Calls.Name_function_global (env := compEnvC scope cl C env) hkind hx (Calls.loadGlobal_builtin (env := compEnvC scope cl C env) (show s.heap.Ns env.globals mg from a.glo ▸ T.g.keeps (a.stays S)) (mg_none_of a.kin T.g e)
    (show s.heap.Ns env.builtins mb from a.blt ▸ T.b.keeps (a.stays S)) ((T.builtins x hn).trans hv) h) hd
theorem C_cell {scope : Scope} {cl : List (Str × Addr)} {C c : Addr} {o : Obj} {x : Str} {pos : Pos} {v : Value} {Q : Value → Shared → Prop} (hkind : scope.kind = .function) (hx : (relabel scope env).names.lookup x = some .cell)
    (hc : cl.lookup x = some c) (ho : s.heap.get? c = some o) (hd : o.data = .cell (some v)) (hb : (x == ("__debug__" : Str)) = false) (h : Q v s) : wpAny (model P w) A (eval (.Name x pos) (compEnvC scope cl C env)) Q E s :=
  wpAny_Name (wpAny_loadName_cell (env := compEnvC scope cl C env) hkind hx hc ⟨o, ho, hd⟩ h) hb
inductive CL (w : World) (A : Around) (env : Env) (G : Gh) (scope : Scope) (cl : List (Str × Addr)) (target : PySem.Expr) (ifs : List PySem.Expr) (elt : PySem.Expr) (Fin : Addr → Zt → List (Option Value) → List (Addr × Obj) → List Value → Nat → Prop) (itv : Value) (s : Shared) : Prop
  | mk (it : Addr) (o : Obj) (n : Nat) (IA : Nat → Obj → Prop) (V : Nat → Value → Prop) (Z₁ : Zt) (vs₁ : List (Option Value)) (mt₁ : List (Addr × Obj)) (J : Nat → Zt → List (Option Value) → List (Addr × Obj) → List Value → Prop)
    (e : itv = .ref it) (hn : n ≤ sizeLine) (st : Steps w A G Z₁ it n IA V) (h0 : IA 0 o) (S : St G Z₁ vs₁ ((it, o) :: mt₁) s) (hJ : J 0 Z₁ vs₁ mt₁ [])
    (turn : ∀ C acc i v Z vs mt ys k m oC o' s' E', i < n → V i v → (∀ a x, Z₁ a x → Z a x) → J i Z vs mt ys → NsO m oC → St G Z vs ((C, oC) :: (it, o') :: (acc, Lo ys k) :: mt) s' →
      wpAny (model P w) A (assign target (compEnvC scope cl C env) v) (fun _ s1 => wpAny (model P w) A (testsOf ifs (compEnvC scope cl C env)) (fun ok s2 =>
        if ok = true then wpAny (model P w) A (eval elt (compEnvC scope cl C env)) (fun y s3 => CTurn G C it acc o' ys k Z₁ (fun Z3 vs3 mt3 => J (i + 1) Z3 vs3 mt3 (ys ++ [y])) s3) E' s2
        else CTurn G C it acc o' ys k Z₁ (fun Z3 vs3 mt3 => J (i + 1) Z3 vs3 mt3 ys) s2) E' s1) E' s')
    (after : ∀ acc Z vs mt ys k, (∀ a x, Z₁ a x → Z a x) → J n Z vs mt ys → acc ∉ G.ft → Fin acc Z vs mt ys k) : CL w A env G scope cl target ifs elt Fin itv s
theorem CL.core {scope : Scope} {cl : List (Str × Addr)} {target elt : PySem.Expr} {ifs : List PySem.Expr} {Fin : Addr → Zt → List (Option Value) → List (Addr × Obj) → List Value → Nat → Prop} {itv : Value} {s : Shared} (h : CL w A env G scope cl target ifs elt Fin itv s) : CLoop w A env G scope cl target ifs elt (fun acc _ _ _ Z vs mt ys k => Fin acc Z vs mt ys k) itv s := by
  obtain ⟨it, o, n, IA, V, Z₁, vs₁, mt₁, J, e, hn, st, h0, S, hJ, turn, after⟩ := h
  exact ⟨it, o, n, IA, V, Z₁, vs₁, mt₁, J, e, hn, st, h0, S, hJ, turn, fun _ acc Z vs mt ys k _ _ hz hJ _ f _ => after acc Z vs mt ys k hz hJ f⟩
theorem CLoop.mono {scope : Scope} {cl : List (Str × Addr)} {target elt : PySem.Expr} {ifs : List PySem.Expr} {Fin Fin' : Addr → Addr → (Str → Option Value) → Obj → Zt → List (Option Value) → List (Addr × Obj) → List Value → Nat → Prop} {itv : Value} {s : Shared} (h : CLoop w A env G scope cl target ifs elt Fin itv s)
    (k : ∀ acc C m oC Z vs mt ys k, Fin acc C m oC Z vs mt ys k → Fin' acc C m oC Z vs mt ys k) : CLoop w A env G scope cl target ifs elt Fin' itv s := by
  obtain ⟨it, o, n, IA, V, Z₁, vs₁, mt₁, J, e, hn, st, h0, S, hJ, turn, after⟩ := h
  exact ⟨it, o, n, IA, V, Z₁, vs₁, mt₁, J, e, hn, st, h0, S, hJ, turn, fun C acc Z vs mt ys c m oC hz hJ nC f fC => k _ _ _ _ _ _ _ _ _ (after C acc Z vs mt ys c m oC hz hJ nC f fC)⟩
theorem V_comp {scope : Scope} {cl : List (Str × Addr)} {target iter elt : PySem.Expr} {ifs : List PySem.Expr} {pos : Pos} (a : Act w A env G outer) (hs : ∀ x, foldedSetIterable iter env x = pure x) (hclos : closureFor scope env = pure cl)
    (hkind : scope.kind = .function) (hnames : ∀ x ∈ scope.names, x.2 = .local → scope.names.lookup x.1 = some .local) (hcell : ∀ y ∈ scope.names, y.2 ≠ .cell)
    (h : wpAny (model P w) A (eval iter env) (fun x s₁ => wpAny (model P w) A (pyIter x) (CL w A env G scope cl target ifs elt (fun acc Z vs mt ys k => ∀ s', St G Z vs ((acc, Lo ys k) :: mt) s' → Q (.ref acc) s')) E s₁) E s) :
    wpAny (model P w) A (eval (.ListComp elt [⟨target, iter, ifs, 0⟩] scope pos) env) Q E s := by
  rw [eval_ListComp]
  refine wpAny_comprehension_free rfl hs hclos hkind hnames (wpAny_mono h (fun x s₁ h₁ => wpAny_mono h₁ (fun itv s₂ h₂ => ?_) fun _ _ e => e) fun _ _ e => e)
  refine comp_core (RR := fun acc C r s' => compPost (model P w) A E none Q acc C r s') a hcell hkind (h₂.core.mono fun acc C m oC Z vs mt ys k after nC f2 s' S' => ?_)
  exact ⟨m, nC.ns (S'.mu _ (.head _)).1, fun h' hs' => after _ (S'.drop (tk := s'.toks) hs'.extBut f2)⟩
theorem X_comp {scope : Scope} {cl : List (Str × Addr)} {target iter elt : PySem.Expr} {ifs : List PySem.Expr} {pos pos' xp : Pos} {x : Str} {rest : List Stmt} {Q : Flow → Shared → Prop} (a : Act w A env G outer) {nm : List Str} (hnm : G.nm = nm)
    (hsw : swapsWith (.ListComp elt [⟨target, iter, ifs, 0⟩] scope pos) (some (.Name x xp)) pos'.line env = pure true)
    (hs : ∀ x, foldedSetIterable iter env x = pure x) (hclos : closureFor scope env = pure cl)
    (hkind : scope.kind = .function) (hnames : ∀ x ∈ scope.names, x.2 = .local → scope.names.lookup x.1 = some .local) (hcell : ∀ y ∈ scope.names, y.2 ≠ .cell)
    (h : wpAny (model P w) A (eval iter env) (fun v s₁ => wpAny (model P w) A (pyIter v) (CL w A env G scope cl target ifs elt (fun acc Z vs mt ys k => ∃ vs', Put nm vs x (.ref acc) vs' ∧ ∀ s', St G Z vs' ((acc, Lo ys k) :: mt) s' → wpAny (model P w) A (execs rest env) Q E s')) E s₁) E s) :
    wpAny (model P w) A (execs (.Assign [.Name x xp] (.ListComp elt [⟨target, iter, ifs, 0⟩] scope pos) pos' :: rest) env) Q E s := by
  refine X_cons ?_
  rw [exec_Assign_Name_used (hs := hsw)]
  have main : wpAny (model P w) A (comprehension (.ListComp elt [⟨target, iter, ifs, 0⟩] scope pos) scope env (firstIterPos [⟨target, iter, ifs, 0⟩] pos) (newList []) false (firstIter [⟨target, iter, ifs, 0⟩] env) (some (assign (.Name x xp) env)))
      (fun _ s' => wpAny (model P w) A (execs rest env) Q E s') E s := by
    refine wpAny_comprehension_free rfl hs hclos hkind hnames (wpAny_mono h (fun v s₁ h₁ => wpAny_mono h₁ (fun itv s₂ h₂ => ?_) fun _ _ e => e) fun _ _ e => e)
    refine comp_core (RR := fun acc C r s' => compPost (model P w) A E (some (assign (.Name x xp) env)) (fun _ s' => wpAny (model P w) A (execs rest env) Q E s') acc C r s') a hcell hkind (h₂.core.mono fun acc C m oC Z vs mt ys k after nC f2 s' S' => ?_)
    obtain ⟨vs', hp, fin⟩ := after
    refine wpAny_assign_Name (R_st a S' hnm hp fun s'' S'' => ?_)
    exact ⟨m, nC.ns (S''.mu _ (.head _)).1, fun h' hs' => fin _ (S''.drop (tk := s''.toks) hs'.extBut f2)⟩
  exact wpAny_bind (wpAny_standAt (wpAny_bind (wpAny_bind (wpAny_mono main (fun _ _ z => wpAny_pure (wpAny_pure z)) fun _ _ e => e))))
end
theorem fill : PySem.Challenge.rw_on0370_01 = PySem.Challenge.rw_on0370_01 ∧ Mine.hd.heap_1 = Mine.hd.heap_1 := by
  k_fill
  exact ⟨rfl, rfl⟩
noncomputable def encA : Nat → Nat → List UInt8
  | 0, n => [UInt8.ofNat n]
  | f + 1, n => if n > 127 then UInt8.ofNat (128 + n % 128) :: encA f (n / 128) else [UInt8.ofNat n]
noncomputable def encN (n : Nat) : List UInt8 := encA n n
theorem encA_le {f g n : Nat} (hf : n ≤ f) (hg : n ≤ g) : encA f n = encA g n := by
  induction f generalizing g n with
  | zero => cases Nat.le_zero.mp hf; cases g <;> rfl
  | succ f ih =>
    cases g with
    | zero => cases Nat.le_zero.mp hg; rfl
    | succ g =>
      show (if n > 127 then _ :: encA f (n / 128) else _) = (if n > 127 then _ :: encA g (n / 128) else _)
      by_cases h : n > 127
      · have k := Nat.div_lt_self (Nat.lt_trans (by decide) h) (show 1 < 128 by decide)
        rw [if_pos h, if_pos h, ih (Nat.le_of_lt_succ (Nat.lt_of_lt_of_le k hf)) (Nat.le_of_lt_succ (Nat.lt_of_lt_of_le k hg))]
      · rw [if_neg h, if_neg h]
theorem encN_eq (n : Nat) : encN n = if n > 127 then UInt8.ofNat (128 + n % 128) :: encN (n / 128) else [UInt8.ofNat n] := by
  cases n with
  | zero => rfl
  | succ n =>
    show (if n + 1 > 127 then _ :: encA n ((n + 1) / 128) else _) = _
    rw [encA_le (g := (n + 1) / 128) (Nat.le_of_lt_succ (Nat.div_lt_self (Nat.succ_pos n) (by decide))) (Nat.le_refl _)]
    rfl
theorem encN_len : ∀ (m n : Nat), n < 128 ^ (m + 1) → (encN n).length ≤ m + 1
  | 0, n, h => by rw [encN_eq, if_neg (by exact Nat.not_lt.mpr (lin1 h (by wtm_at "p")))]; simp
  | m + 1, n, h => by
    rw [encN_eq]
    split
    · rw [List.length_cons]
      have := encN_len m (n / 128) (by rw [Nat.div_lt_iff_lt_mul (by wtm_at "a"), ← Nat.pow_succ]; exact h)
      exact lin1 this (by wtm_at "a")
    · simp
theorem encN_pos (n : Nat) : 0 < (encN n).length := by rw [encN_eq]; split <;> simp
theorem byteArr_snoc (a : List Int) (n : Int) : (byteArr (a ++ [n])).toList = (byteArr a).toList ++ [n.toNat.toUInt8] := by simp [byteArr]
local macro_rules | `(tactic| wtm_at "at") => `(tactic| with_reducible (first | exact At.here | (apply At.there; wtm_at "at")))
local macro_rules | `(tactic| wtm_at "put") => `(tactic| with_reducible (first | exact Put.here | (apply Put.there; wtm_at "put")))
local macro_rules | `(tactic| wtm_at "chg") => `(tactic| with_reducible (first | exact Chg.here | (apply Chg.there; wtm_at "chg")))
local macro_rules | `(tactic| wtm_at "has") => `(tactic| with_reducible (first | exact Has.here | (apply Has.there; wtm_at "has")))
local macro_rules | `(tactic| wtm_at "kis") => `(tactic| (dsimp only [KK]; k_is))
local macro_rules | `(tactic| wtm_at "v") => `(tactic| first
  | (with_reducible refine R_loc (by assumption) (by assumption) (by assumption) (by wtm_at "at") ?_)
  | ((with_reducible refine R_int (by assumption) ?_); intro _ _ _)
  | ((with_reducible refine R_str (by assumption) ?_); intro _ _ _)
  | ((with_reducible refine R_bytes (by assumption) ?_); intro _ _ _)
  | (with_reducible refine R_bool ?_)
  | (with_reducible refine R_none ?_)
  | ((with_reducible refine' C_loc (by assumption) (by wtm_at "has") (by assumption) ?k1 ?k2 (by assumption) ?k3 ?_); (case k1 => exact rfl); (case k2 => kernel_rfl); (case k3 => kernel_rfl))
  | ((with_reducible refine' C_glob (by assumption) (by assumption) ?k1 ?k2 ?k3 ?k4 ?_); (case k1 => exact rfl); (case k3 => wtm_at "kis"); (case k2 => exact rfl); (case k4 => kernel_rfl))
  | ((with_reducible refine' C_blt (by assumption) (by assumption) ?k1 ?k2 ?k3 ?k4 ?k5 ?k6 ?_); (case k1 => exact rfl); (case k3 => wtm_at "kis"); (case k2 => exact rfl); (case k4 => boot_by_name); (case k5 => decide); (case k6 => kernel_rfl))
  | (with_reducible refine wpAny_BinOp ?_)
  | ((with_reducible refine' V_comp (by assumption) ?k1 ?k2 ?k3 ?k4 ?k5 ?_); (case k1 => intro _; rfl); (case k2 => exact closureFor_none (by decide)); (case k3 => exact rfl); (case k4 => decide +kernel); (case k5 => decide))
  | ((with_reducible refine V_cmp ?k ?_); (case k => exact rfl))
  | ((with_reducible refine V_tcmp ?k ?_); (case k => exact rfl))
  | (with_reducible refine wpAny_items_nil ?_)
  | ((with_reducible refine V_items ?k ?_); (case k => exact rfl))
  | ((with_reducible refine R_add (by assumption) ?_); intro _ _ _)
  | ((with_reducible refine R_sub (by assumption) ?_); intro _ _ _)
  | ((with_reducible refine R_modN (by assumption) ?k ?_); (case k => omega); intro _ _ _)
  | ((with_reducible refine R_fdivN (by assumption) ?k1 ?k2 ?_); (case k1 => omega); (case k2 => omega); intro _ _ _)
  | (with_reducible refine Nx.ret ?_)
  | ((with_reducible refine R_mod (by assumption) ?k ?_); (case k => first | decide | omega); intro _ _ _)
  | ((with_reducible refine R_fdiv (by assumption) ?k1 ?k2 ?_); (case k1 => first | decide | omega); (case k2 => exact PyProof.noPylong_small (by omega)); intro _ _ _)
  | ((with_reducible refine R_mulS (by assumption) ?k1 ?k2 ?_); (case k1 => omega); (case k2 => omega); intro _ _ _)
  | (with_reducible refine V_sub ?_)
  | (with_reducible refine wpAny_IfExp ?_)
  | (with_reducible refine wpAny_UnaryOp ?_)
  | ((with_reducible refine R_neg (by assumption) ?_); intro _ _ _)
  | ((with_reducible refine' V_attr ?k ?_); (case k => exact rfl))
  | (with_reducible refine gt_int ?_)
  | (with_reducible refine lt_int ?_)
  | (with_reducible refine ge_int ?_)
  | (with_reducible refine eq_int ?_)
  | (with_reducible refine wpAny_truthy_bool ?_)
  | ((with_reducible refine R_newList (by assumption) (by assumption) ?k ?_); (case k => exact nb rfl); intro _ _ _ _)
  | (with_reducible refine List_ ?_)
  | (with_reducible refine PyProof.Rows.Tuple_ ?_)
  | ((with_reducible refine R_newTuple (by assumption) (by assumption) ?k ?_); (case k => exact nb rfl); intro _ _ _ _)
  | (with_reducible refine X_Name ?_)
  | ((with_reducible refine' V_mcall ?k ?_); (case k => exact rfl))
  | ((with_reducible refine V_ctype ?k1 ?k2 ?_); (case k1 => exact rfl); (case k2 => exact rfl))
  | ((with_reducible refine V_fn (by assumption) (by assumption) ?k1 ?k2 ?k3 ?_); (case k1 => kernel_rfl); (case k2 => exact rfl); (case k3 => exact rfl))
  | ((with_reducible refine V_cblt ?k1 ?k2 ?_); (case k1 => exact rfl); (case k2 => exact rfl))
  | ((with_reducible refine V_cmeth ?k1 ?k2 ?_); (case k1 => exact rfl); (case k2 => exact rfl))
  | ((with_reducible refine' R_glob (by assumption) (by assumption) (by assumption) ?k1 ?k2 ?_); (case k2 => wtm_at "kis"); (case k1 => kernel_rfl))
  | ((with_reducible refine' R_blt (by assumption) (by assumption) (by assumption) ?k1 ?k2 ?k3 ?k4 ?_); (case k2 => wtm_at "kis"); (case k1 => kernel_rfl); (case k3 => boot_by_name); (case k4 => decide)))
local macro_rules | `(tactic| wtm_at "x") => `(tactic| first
  | ((with_reducible refine X_assign (by assumption) (by assumption) ?k ?_); (case k => exact rfl))
  | ((with_reducible refine' X_comp (by assumption) (by assumption) ?k0 ?k1 ?k2 ?k3 ?k4 ?k5 ?_); (case k0 => wtm_at "swap"); (case k1 => intro _; rfl); (case k2 => exact closureFor_none (by decide)); (case k3 => exact rfl); (case k4 => decide +kernel); (case k5 => decide))
  | ((with_reducible refine X_asub ?k ?_); (case k => exact rfl))
  | ((with_reducible refine X_aattr ?k ?_); (case k => exact rfl))
  | ((with_reducible refine X_expr (by assumption) ?k ?_); (case k => exact rfl))
  | (with_reducible refine X_if ?_)
  | ((with_reducible refine X_for (by assumption) ?k1 ?_); (case k1 => intro _; rfl))
  | (with_reducible refine X_ret ?_)
  | (with_reducible refine X_nil ?_)
  | (with_reducible refine Nx.next ?_))
local macro_rules | `(tactic| wtm_at "set") => `(tactic| (refine KSet.mk (by assumption) (by wtm_at "put") ?_; intro _ _))
local macro_rules | `(tactic| wtm_at "call") => `(tactic| ((case ho => (show List.lookup _ (Mine.hd.heap_1 _) = _; k_is)); (case k1 => exact rfl); (case k2 => exact rfl); (case k3 => kernel_rfl); (first | (case k4 => kernel_rfl) | skip); (case k5 => kernel_rfl); (case k6 => kernel_rfl)))
theorem fn_number {w : World} {A : Around} {env : Env} {G : Gh} {outer : List Env} {Z : Zt} {vs : List (Option Value)} {mt : List (Addr × Obj)} {s : Shared} {E Q : Value → Shared → Prop} {z : Int} (k : Nat) {t : Tok}
    (a : Act w A env G outer) (S : St G Z vs mt s) (hr : Room A 1) (hz : z = (k : Int)) (hk : k < 2 ^ 63)
    (h : ∀ t' s', St G Z vs mt s' → Q (.bytes (encN k).toArray t') s') : wpAny (model P w) A (call (.ref 347) [.int z t]) Q E s := by
  subst hz
  refine' call_def (f := 347) (foot := []) (rest := mt) (nm := ["number", "found"]) (gn := ["bytes"]) (binds := [("number", .int k t)]) (vs₁ := [some (.int k t), none]) (X := fun _ _ _ _ => False) a S ?hd ?ho ?k1 ?k2 ?k3 ?k4 ?k5 ?k6 ?h (fun _ _ _ _ _ _ _ h => h.elim)
  wtm_at "call"
  case hd => exact hr.dep
  case h =>
    intro A' env' G' s' _ _ _ hnm hgn a' S'
    wtm_at "x"
    repeat wtm_at "v"
    wtm_at "set"
    rename_i l s1 S1 hl s2 S2
    refine X_while a' (fun n s => ∃ (tj : Tok) (xs : List Value) (ns : List Int) (c : Nat), n ≤ k ∧ St G' Z [some (.int n tj), some (.ref l)] [(l, Lo xs c)] s ∧ IntsAre xs ns ∧ (∀ i ∈ ns, 0 ≤ i ∧ i < 256) ∧ (byteArr ns).toList ++ encN n = encN k) k ⟨t, [], [], 0, Nat.le_refl _, S2, .nil, by simp, by simp [byteArr]⟩ ?_
    rintro n s ⟨tj, xs, ns, c, hj, S, hi, hb, he⟩
    have hlen : ns.length ≤ 9 := by
      have := congrArg List.length he
      rw [List.length_append, Array.length_toList, byteArr_size] at this
      have h9 := encN_len 8 k (by exact lin1 (b := 9223372036854775808) hk (by wtm_at "p"))
      exact Nat.le_trans (Nat.le_add_right _ _) (Nat.le_trans (Nat.le_of_eq this) h9)
    have hxl : xs.length ≤ 9 := by have := hi.length; exact lin2 hlen (Nat.le_of_eq this) (by wtm_at "a")
    repeat wtm_at "v"
    refine ite_dec (fun hc => ?_) (fun hc => ?_)
    · wtm_at "x"
      wtm_at "v"
      wtm_at "v"
      refine getMethod_list_append (St.has (by assumption) (by wtm_at "has")) rfl rfl ?_
      repeat wtm_at "v"
      refine R_append (by assumption) (by wtm_at "chg") (by rw [sizeLine_eq]; exact lin1 hxl (by wtm_at "a")) ?_
      refine fun _ _ => ⟨rfl, ?_⟩
      wtm_at "x"
      repeat wtm_at "v"
      wtm_at "set"
      rename_i s9 S9
      wtm_at "x"
      have e1 : Int.fmod (n : Int) 128 = ((n % 128 : Nat) : Int) := by rw [Int.fmod_eq_emod_of_nonneg _ (by decide)]; rfl
      have e2 : Int.fdiv (n : Int) 128 = ((n / 128 : Nat) : Int) := by rw [Int.fdiv_eq_ediv_of_nonneg _ (by decide)]; rfl
      have hc' : 127 < n := by omega
      have hm : n % 128 < 128 := Nat.mod_lt _ (by decide)
      rw [e2] at S9
      refine ⟨n / 128, Nat.div_lt_self (Nat.lt_trans (by decide) hc') (by decide), _, _, ns ++ [128 + Int.fmod n 128], _, Nat.le_trans (Nat.div_le_self n 128) hj, S9, hi.append (.cons _ _ .nil), fun i hi' => ?_, ?_⟩
      · rcases List.mem_append.mp hi' with q | q
        · exact hb i q
        · rw [List.mem_singleton] at q; subst q; rw [e1]; exact ⟨Int.natCast_nonneg (128 + n % 128), Int.ofNat_lt.mpr (Nat.add_lt_add_left hm 128)⟩
      · rw [byteArr_snoc, ← he, List.append_assoc]
        congr 1
        conv => rhs; rw [encN_eq, if_pos hc']
        rw [e1, show (128 + ((n % 128 : Nat) : Int)).toNat = 128 + n % 128 from rfl]
        rfl
    · have hc'' : ¬ 127 < n := by omega
      wtm_at "x"
      repeat wtm_at "v"
      refine R_addList a' (by assumption) (St.isList (by assumption) (by wtm_at "has")) (St.isList (by assumption) (by wtm_at "has")) (by rw [sizeLine_eq]; simp; exact lin1 hxl (by wtm_at "a")) fun l3 s3 S hl3 => ?_
      wtm_at "v"
      refine call_bytes_ints (ns := ns ++ [(n : Int)]) (S.isList .here) (hi.append (.cons _ _ .nil)) (fun i hi' => ?_) (by rw [sizeLine_eq]; simp; exact lin1 hxl (by wtm_at "a")) a'.hnd fun h' t' k' hk' => ?_
      · rcases List.mem_append.mp hi' with q | q
        · exact hb i q
        · rw [List.mem_singleton] at q; subst q; exact ⟨Int.natCast_nonneg n, Int.ofNat_lt.mpr (Nat.lt_of_le_of_lt (Nat.le_of_not_lt hc'') (by decide))⟩
      · refine (Back.mk (mt' := []) (Z' := Z) ((S.grow (tk := k') hk').nil) (fun S => ?_))
        have : byteArr (ns ++ [(n : Int)]) = (encN k).toArray := by
          apply Array.toList_inj.mp
          rw [byteArr_snoc, ← he]
          congr 1
          rw [encN_eq, if_neg hc'']
          rfl
        show Q (.bytes (byteArr (ns ++ [(n : Int)])) t') _
        rw [this]
        exact h _ _ S
noncomputable def encP (p : Nat × Nat) : List UInt8 := encN p.1 ++ encN p.2
noncomputable def encPs (ps : List (Nat × Nat)) : List UInt8 := ps.flatMap encP
noncomputable def encRow (ps : List (Nat × Nat)) : List UInt8 := encN ps.length ++ encPs ps
noncomputable def SmallP (p : Nat × Nat) : Prop := p.1 < 2 ^ 63 ∧ p.2 < 2 ^ 63
theorem encN_le (n : Nat) (h : n < 2 ^ 63) : (encN n).length ≤ 9 := encN_len 8 n (by exact lin1 (b := 9223372036854775808) h (by wtm_at "p"))
theorem encPs_len : ∀ (ps : List (Nat × Nat)), (∀ p ∈ ps, SmallP p) → (encPs ps).length ≤ 18 * ps.length
  | [], _ => by simp [encPs]
  | p :: ps, h => by
    have ih := encPs_len ps fun q hq => h q (.tail _ hq)
    have h1 := encN_le _ (h p (.head _)).1
    have h2 := encN_le _ (h p (.head _)).2
    simp only [encPs, List.flatMap_cons, List.length_append, List.length_cons, encP] at ih ⊢
    exact lin3 ih h1 h2 (by wtm_at "a")
theorem encPs_take {ps : List (Nat × Nat)} {i : Nat} {p : Nat × Nat} (h : ps[i]? = some p) : encPs (ps.take (i + 1)) = encPs (ps.take i) ++ encP p := by
  rw [List.take_add_one, h]
  simp [encPs]
theorem fn_row {w : World} {A : Around} {env : Env} {G : Gh} {outer : List Env} {Z : Zt} {vs : List (Option Value)} {mt : List (Addr × Obj)} {s : Shared} {E Q : Value → Shared → Prop} {pv : Value} (ps : List (Nat × Nat))
    (a : Act w A env G outer) (S : St G Z vs mt s) (hr : Room A 2) (hp : RowV Z pv ps) (hn : ps.length ≤ 100000) (hb : ∀ p ∈ ps, SmallP p)
    (h : ∀ t' s', St G Z vs mt s' → Q (.bytes (encRow ps).toArray t') s') : wpAny (model P w) A (call (.ref 354) [pv]) Q E s := by
  refine' call_def (f := 354) (foot := []) (rest := mt) (nm := ["pairs", "found", "many", "number"]) (gn := ["_law_number", "len"]) (binds := [("pairs", pv)]) (vs₁ := [some pv, none, none, none]) (X := fun _ _ _ _ => False) a S ?hd ?ho ?k1 ?k2 ?k3 ?k4 ?k5 ?k6 ?h (fun _ _ _ _ _ _ _ h => h.elim)
  wtm_at "call"
  case hd => exact hr.dep
  case h =>
    intro A' env' G' s' dA uA _ hnm hgn a' S'
    have hr' : Room A' 1 := hr.sub dA uA (by decide)
    obtain ⟨l, xs, c, rfl, hl, hxs⟩ := hp
    have hlen := hxs.length
    wtm_at "x"
    repeat wtm_at "v"
    refine R_len (by assumption) hl (by rw [sizeLine_eq]; exact lin2 hn (Nat.le_of_eq hlen) (by wtm_at "a")) fun t1 s1 S1 => ?_
    wtm_at "v"
    refine (KDef.mk S1 ?_)
    refine fn_number ps.length a' S1 hr' (by rw [hlen]) (by exact lin1 (b := 9223372036854775808) hn (by wtm_at "a")) fun t2 s2 S2 => ?_
    wtm_at "set"
    rename_i s3 S3
    wtm_at "x"
    wtm_at "v"
    refine iter_list a' S3 hl fun it s4 o ho hf S4 => ?_
    subst ho
    let J : Nat → Zt → List (Option Value) → List (Addr × Obj) → Prop := fun i Z' vs' mt' => Z' = Z ∧ mt' = [] ∧ ∃ t m n, vs' = [some (.ref l), some (.bytes (encN ps.length ++ encPs (ps.take i)).toArray t), m, n]
    refine Loop.mk it _ _ _ _ Z _ _ J rfl (steps_list a'.hnd hl hf) (⟨rfl, rfl⟩) S4 (⟨rfl, rfl, t2, none, none, by simp [encPs]⟩) ?_ ?_
    · rintro i v Z5 vs5 mt5 o5 s5 hi hv _ ⟨rfl, rfl, t, m, n, rfl⟩ S5
      obtain ⟨p, hp, pa, t1, t2, pc, rfl, hpa⟩ := hxs.get hv
      refine T_pair a' S5 hnm (S5.z _ _ hpa) (by wtm_at "put") (by wtm_at "put") fun s6 S6 => ?_
      have hsm := hb p (List.mem_of_getElem? hp)
      have hk1 := encN_le _ hsm.1
      have hk2 := encN_le _ hsm.2
      have hk0 := encN_le ps.length (by exact lin1 (b := 9223372036854775808) hn (by wtm_at "a"))
      have hk3 := encPs_len (ps.take i) fun q hq => hb q (List.mem_of_mem_take hq)
      have hk4 : (ps.take i).length ≤ ps.length := List.length_take_le' ..
      wtm_at "x"
      repeat wtm_at "v"
      refine (KDef.mk S6 ?_)
      refine fn_number p.1 a' S6 hr' rfl hsm.1 fun t7 s7 S7 => ?_
      refine R_badd S7 (by rw [sizeLine_eq, List.length_append]; omega) fun t8 s8 S8 => ?_
      repeat wtm_at "v"
      refine (KDef.mk S8 ?_)
      refine fn_number p.2 a' S8 hr' rfl hsm.2 fun t9 s9 S9 => ?_
      refine R_badd S9 (by rw [sizeLine_eq, List.length_append, List.length_append]; omega) fun t10 s10 S10 => ?_
      wtm_at "set"
      rename_i s11 S11
      wtm_at "x"
      have e : encN ps.length ++ encPs (ps.take (i + 1)) = encN ps.length ++ encPs (ps.take i) ++ encN p.1 ++ encN p.2 := by
        rw [encPs_take hp, encP]; simp only [List.append_assoc]
      exact (Turn.mk S11 (fun _ _ q => q) ⟨rfl, rfl, _, _, _, by rw [e]⟩)
    · rintro Z5 vs5 mt5 s5 _ ⟨rfl, rfl, t, m, n, rfl⟩ S5
      wtm_at "x"
      repeat wtm_at "v"
      refine (Back.mk S5 (fun S => ?_))
      rw [List.take_of_length_le (by exact lin1 (Nat.le_of_eq hlen.symm) (by wtm_at "a"))]
      exact h _ _ S
theorem fn_draw {w : World} {A : Around} {env : Env} {G : Gh} {outer : List Env} {Z : Zt} {vs : List (Option Value)} {mt : List (Addr × Obj)} {s : Shared} {E Q : Value → Shared → Prop} {d : Addr} {o : Obj} {W : Well} (many : Nat) {tm : Tok}
    (a : Act w A env G outer) (S : St G Z vs ((d, o) :: mt) s) (hr : Room A 1) (hW : WellO w Z W o) {n : Nat} (hk : W.Ok n) (hn : n ≤ 1000) (hm : 0 < many)
    (h : ∀ o' t' s', WellO w Z W.next o' → St G Z vs ((d, o') :: mt) s' → Q (.int (W.draw many : Int) t') s') : wpAny (model P w) A (call (.ref 340) [.ref d, .int (many : Int) tm]) Q E s := by
  refine' call_def (f := 340) (foot := [(d, o)]) (rest := mt) (nm := ["well", "many", "at"]) (gn := ["len"]) (binds := [("well", .ref d), ("many", .int (many : Int) tm)]) (vs₁ := [some (.ref d), some (.int (many : Int) tm), none]) (X := fun _ _ _ _ => False) a S ?hd ?ho ?k1 ?k2 ?k3 ?k4 ?k5 ?k6 ?h (fun _ _ _ _ _ _ _ h => h.elim)
  wtm_at "call"
  case hd => exact hr.dep
  case h =>
    intro A' env' G' s' dA uA _ hnm hgn a' S'
    obtain ⟨l, xs, c, t1, t2, hl, hxs, hd⟩ := hW
    have hlen := hxs.length
    have h24 := hk.len
    wtm_at "x"
    repeat wtm_at "v"
    refine T_dict rfl (by assumption) (St.has (by assumption) .here) hd rfl fun s1 S1 => ?_
    wtm_at "set"
    rename_i s2 S2
    wtm_at "x"
    repeat wtm_at "v"
    rename_i t3 s3 S3
    refine set_dict S3 hd (by rw [sizeLine_eq]; exact nb rfl) rfl fun o' s4 hd' S4 => ?_
    have hW' : WellO w Z W.next o' := ⟨l, xs, c, _, _, hl, hxs, hd'⟩
    wtm_at "x"
    repeat wtm_at "v"
    refine T_dict rfl (by assumption) (St.has (by assumption) .here) hd' rfl fun s5 S5 => ?_
    repeat wtm_at "v"
    refine R_len (by assumption) hl (by rw [sizeLine_eq]; exact lin2 (Nat.le_of_eq hlen) h24 (by wtm_at "a")) fun t5 s6 S6 => ?_
    repeat wtm_at "v"
    refine ite_dec (fun lt => ?_) fun ge => ?_
    · have hx : W.at_ < xs.length := by omega
      obtain ⟨cl, hcl, t6, hv⟩ := hxs.get (List.getElem?_eq_getElem hx)
      have e : W.draw many = cl % many := by unfold Well.draw; rw [hcl]
      wtm_at "x"
      repeat wtm_at "v"
      refine T_dict rfl (by assumption) (St.has (by assumption) .here) hd' rfl fun s7 S7 => ?_
      repeat wtm_at "v"
      refine T_list rfl (S7.isListZ hl) rfl (by exact lin3 (b := 9223372036854775808) (Nat.le_of_eq hlen) h24 hx (by wtm_at "a")) (List.getElem?_eq_getElem hx) ?_
      rw [hv]
      repeat wtm_at "v"
      refine (Back.mk ((by assumption)) (fun S => ?_))
      rw [← e]
      exact h _ _ _ hW' S
    · have hn : W.cells[W.at_]? = none := by rw [List.getElem?_eq_none_iff]; omega
      have hat := hk.at_
      have hst := hk.stir
      have e : W.draw many = (W.stir + 7919 * W.at_ * W.at_ + 104729 * W.at_) % 1000003 / 5 % many := by unfold Well.draw; rw [hn]
      wtm_at "x"
      wtm_at "x"
      wtm_at "x"
      repeat wtm_at "v"
      refine T_dict rfl (by assumption) (St.has (by assumption) .here) hd' rfl fun s7 S7 => ?_
      repeat wtm_at "v"
      refine (Back.mk ((by assumption)) (fun S => ?_))
      have e2 : (((W.stir : Int) + 7919 * (W.at_ : Int) * (W.at_ : Int) + 104729 * (W.at_ : Int)).fmod 1000003 |>.fdiv 5).fmod (many : Int) = (W.draw many : Int) := by
        rw [e, ← fmodN, ← fdivN, ← fmodN]
        simp only [Int.natCast_add, Int.natCast_mul]
        rfl
      rw [e2]
      exact h _ _ _ hW' S
namespace Bx
open Builtin
theorem slot_join : Slot "bytes" "join" "bytes.join" :=
  .of (owner := "bytes") (n := "join") (by rw [typeLookup_type, builtinLookup_eq_fast]; kernel_rfl) (by wtm_at "d") (by wtm_at "d") (by wtm_at "d")
    (by first | exact .inl (by wtm_at "d") | exact .inr (by wtm_at "d")) (by rw [isSubtype_type]; kernel_rfl)
theorem type_join : typeOf (.builtin "bytes.join") = pure (.type "method_descriptor") := by show builtinType _ = _; rw [builtinType_eq_fast]; kernel_rfl
theorem entry_join : entryFor table "bytes.join" = some Builtin.«bytes.join» := entryFor_of_tree (by kernel_rfl)
theorem args_join (a b : Value) : argsOk "bytes.join" ⟨[a, b], []⟩ := by unfold argsOk; kernel_rfl
theorem take_eq {id : String} {b : Array UInt8} {t : Tok} : Bytes.takeBufferQuiet? id (.bytes b t) 0 = pure (some (b, none)) := by
  unfold Bytes.takeBufferQuiet? Bytes.takeBuffer?
  rw [KBy.special_eq KBy.look_buffer, KBy.own_buffer, show ((0 : Int) == Bytes.fullReadOnly) = false from by decide, KBy.buffer_eq]
  kernel_rfl
noncomputable def bval (p : List UInt8 × Tok) : Value := .bytes p.1.toArray p.2
theorem fold_size (l : List (List UInt8 × Tok)) : Array.foldl (fun x1 (x2 : Array UInt8) => x1 + x2.size) 0 ((l.map fun p => p.1.toArray).toArray) = (l.flatMap (·.1)).length := by
  have : ∀ (l : List (List UInt8 × Tok)) (k : Nat), List.foldl (fun x1 (x2 : Array UInt8) => x1 + x2.size) k (l.map fun p => p.1.toArray) = k + (l.flatMap (·.1)).length := by
    intro l
    induction l with
    | nil => intro k; rfl
    | cons p r ih =>
      intro k
      rw [List.map_cons, List.foldl_cons, ih, List.flatMap_cons, List.length_append, List.size_toArray]
      exact Nat.le_antisymm ((by wtm_at "a")) ((by wtm_at "a"))
  rw [List.foldl_toArray]
  simpa using this l 0
theorem joined_nil : ∀ (l : List (Array UInt8)), Bytes.joined #[] l = (l.flatMap Array.toList).toArray := by
  have key : ∀ (l : List (Array UInt8)) (n : Nat) (o : Array UInt8), (l.zipIdx n).foldl (fun out (x : Array UInt8 × Nat) => (if x.2 > 0 then out ++ (#[] : Array UInt8) else out) ++ x.1) o = o ++ (l.flatMap Array.toList).toArray := by
    intro l
    induction l with
    | nil => intro n o; simp
    | cons p r ih =>
      intro n o
      rw [List.zipIdx_cons, List.foldl_cons, ih]
      obtain ⟨p⟩ := p
      simp
  intro l
  have := key l 0 #[]
  unfold Bytes.joined
  rw [show (#[] : Array UInt8) ++ (l.flatMap Array.toList).toArray = (l.flatMap Array.toList).toArray by simp] at this
  exact this
theorem letGo_bytes {M : Model} {A : Around} {E : Value → Shared → Prop} {s : Shared} : ∀ (l : List (List UInt8 × Tok)) (keep : List Value) (Q : Unit → Shared → Prop), Q () s → wpAny M A (Bytes.joinLetGo (l.map fun p => (bval p, none)) keep) Q E s
  | [], keep, Q, h => wpAny_pure h
  | p :: r, keep, Q, h => by
    show wpAny M A (do letGo (bval p :: []) (keep ++ (r.map fun p => (bval p, (none : Option Value))).flatMap fun (y, u) => y :: u.toList); Bytes.joinLetGo (r.map fun p => (bval p, none)) keep) Q E s
    refine wpAny_bind ?_
    show wpAny M A (do holding ([] ++ (keep ++ (r.map fun p => (bval p, (none : Option Value))).flatMap fun (y, u) => y :: u.toList)) point; letGo [] (keep ++ (r.map fun p => (bval p, (none : Option Value))).flatMap fun (y, u) => y :: u.toList)) _ E s
    exact wpAny_bind (wpAny_holding (wpAny_point (wpAny_pure (letGo_bytes r keep Q h))))
theorem noHeap : ∀ (l : List (List UInt8 × Tok)), ((l.map fun p => (bval p, (none : Option Value))).any fun x => x.1.onHeap) = false
  | [] => rfl
  | p :: r => by rw [List.map_cons, List.any_cons, noHeap r]; rfl
theorem meets_join (t : Tok) (a : Addr) (n : Nat) (l : List (List UInt8 × Tok)) (hz : (l.flatMap (·.1)).length ≤ sizeLine) :
    Meets («bytes.join» ⟨[.bytes #[] t, .ref a], []⟩) (fun _ R s => s.heap.get? a = some (Lo (l.map bval) n) ∧ ∀ t' k, R (.ok (.ret (.bytes (l.flatMap (·.1)).toArray t'))) { s with toks := k }) := by
  refine .of_wp fun prog w A R s hS => ?_
  obtain ⟨ho, h⟩ := hS
  generalize A.in1 = A'
  have hT : s.TypeIs (.ref a) "list" := ⟨_, ho, rfl⟩
  show wpAny _ _ (Bytes.joinItems (.ref a) >>= fun r => _) _ _ s
  refine wpAny_bind ?_
  unfold Bytes.joinItems
  refine wpAny_bind (wpAny_typeOf hT ?_)
  rw [if_pos (by decide)]
  refine wpAny_pure ?_
  have hseq : ∀ (Q : Option (Array Value) → Shared → Prop) (E : Value → Shared → Prop), Q (some (l.map bval).toArray) s → wpAny (model prog w) A' (seqItems? (.ref a)) Q E s := fun Q E hQ => by
    unfold seqItems?
    exact wpAny_bind (wpAny_load ho (wpAny_pure hQ))
  show wpAny _ _ (seqItems? (.ref a) >>= _) _ _ s
  refine wpAny_bind (hseq _ _ ?_)
  have one : ∀ p : List UInt8 × Tok, l = [p] → wpAny (model prog w) A' (ret (bval p)) (fun fin s' => ∃ v, fin = Fin.done (Flow.ret v) ∧ R (Except.ok (Flow.ret v)) s') (fun e s' => R (Except.error e) s') s := fun p e => by
    subst e
    have := h p.2 s.toks
    simp only [List.flatMap_cons, List.flatMap_nil, List.append_nil] at this
    exact wpAny_pure ⟨_, rfl, this⟩
  have ends : ∀ b : Array (Array UInt8) × List (Value × Option Value), b = ((l.map fun p => p.1.toArray).toArray, l.map fun p => (bval p, (none : Option Value))) →
    wpAny (model prog w) A' (do
      let result ← Bytes.Kind.bytes.new (Bytes.joined #[] b.1.toList)
      holding (result :: b.2.flatMap fun (y, u) => y :: u.toList) point
      Bytes.joinLetGo b.2 [result]
      ret result) (fun fin s' => ∃ v, fin = Fin.done (Flow.ret v) ∧ R (Except.ok (Flow.ret v)) s') (fun e s' => R (Except.error e) s') s := by
    rintro _ rfl
    have e : Bytes.joined #[] (l.map fun p => p.1.toArray) = (l.flatMap (·.1)).toArray := by
      rw [joined_nil, List.flatMap_map]
    show wpAny _ _ (mkBytes (Bytes.joined #[] (l.map fun p => p.1.toArray)) >>= _) _ _ s
    rw [e]
    refine wpAny_bind (wpAny_mkBytes ?_)
    refine wpAny_bind (wpAny_holding (wpAny_point ?_))
    refine wpAny_bind (letGo_bytes l _ _ ?_)
    exact wpAny_pure ⟨_, rfl, h _ _⟩
  have inv : ∀ (f : Nat → Array (Array UInt8) × List (Value × Option Value) → Sem (ForInStep (Array (Array UInt8) × List (Value × Option Value)))) (Q : Array (Array UInt8) × List (Value × Option Value) → Shared → Prop)
      (hf : ∀ i (hi : i < l.length), wpAny (model prog w) A' (f i (((l.take i).map fun p => p.1.toArray).toArray, (l.take i).map fun p => (bval p, none)))
        (fun r s' => s' = s ∧ r = .yield (((l.take (i + 1)).map fun p => p.1.toArray).toArray, (l.take (i + 1)).map fun p => (bval p, none))) (fun e s' => R (Except.error e) s') s)
      (hQ : Q ((l.map fun p => p.1.toArray).toArray, l.map fun p => (bval p, none)) s),
      wpAny (model prog w) A' (forIn [0:(l.map bval).toArray.size] ((#[] : Array (Array UInt8)), ([] : List (Value × Option Value))) f) Q (fun e s' => R (Except.error e) s') s := fun f Q hf hQ => by
    rw [Std.Legacy.Range.forIn_eq_forIn_range']
    simp only [Std.Legacy.Range.size, Nat.sub_zero, Nat.add_sub_cancel, Nat.div_one]
    refine wpAny_forIn_list f (fun rest b s' => s' = s ∧ ∃ i, i ≤ l.length ∧ rest = List.range' i (l.length - i) ∧ b = (((l.take i).map fun p => p.1.toArray).toArray, (l.take i).map fun p => (bval p, none))) Q ?_ ?_ _ _ ?_
    · rintro x rest b s' ⟨rfl, i, hi, hr, rfl⟩
      have lt : i < l.length := by
        rcases Nat.lt_or_ge i l.length with q | q
        · exact q
        · rw [show l.length - i = 0 by exact Nat.le_antisymm (lin2 q (Nat.le_of_eq (Nat.sub_add_cancel (show i ≤ l.length from lin1 hi (by wtm_at "a")))) (by wtm_at "a")) ((by wtm_at "a"))] at hr; cases hr
      rw [show l.length - i = (l.length - (i + 1)) + 1 by exact Nat.le_antisymm (lin2 (Nat.le_of_eq (Nat.sub_add_cancel (show i ≤ l.length from lin1 lt (by wtm_at "a")))) (Nat.le_of_eq (Nat.sub_add_cancel (show i + 1 ≤ l.length from lin1 lt (by wtm_at "a"))).symm) (by wtm_at "a")) (lin2 (Nat.le_of_eq (Nat.sub_add_cancel (show i + 1 ≤ l.length from lin1 lt (by wtm_at "a")))) (Nat.le_of_eq (Nat.sub_add_cancel (show i ≤ l.length from lin1 lt (by wtm_at "a"))).symm) (by wtm_at "a")), List.range'_succ] at hr
      obtain ⟨rfl, rfl⟩ := List.cons.inj hr
      refine wpAny_mono (hf x lt) (fun r s'' z => ?_) fun _ _ e => e
      obtain ⟨rfl, rfl⟩ := z
      exact ⟨rfl, x + 1, lt, rfl, rfl⟩
    · rintro b s' ⟨rfl, i, hi, hr, rfl⟩
      have : i = l.length := by
        rcases Nat.lt_or_ge i l.length with q | q
        · rw [show l.length - i = (l.length - (i + 1)) + 1 by exact Nat.le_antisymm (lin2 (Nat.le_of_eq (Nat.sub_add_cancel (show i ≤ l.length from lin1 q (by wtm_at "a")))) (Nat.le_of_eq (Nat.sub_add_cancel (show i + 1 ≤ l.length from lin1 q (by wtm_at "a"))).symm) (by wtm_at "a")) (lin2 (Nat.le_of_eq (Nat.sub_add_cancel (show i + 1 ≤ l.length from lin1 q (by wtm_at "a")))) (Nat.le_of_eq (Nat.sub_add_cancel (show i ≤ l.length from lin1 q (by wtm_at "a"))).symm) (by wtm_at "a")), List.range'_succ] at hr; cases hr
        · exact Nat.le_antisymm (lin1 hi (by wtm_at "a")) (lin1 q (by wtm_at "a"))
      subst this
      simpa using hQ
    · refine ⟨rfl, 0, Nat.zero_le _, ?_, rfl⟩
      simp
  cases l with
  | nil =>
    show wpAny _ _ (forIn _ _ _ >>= _) _ _ s
    refine wpAny_bind (inv _ _ (fun i hi => absurd hi (Nat.not_lt_zero _)) ?_)
    show wpAny _ _ (Bytes.payload (.bytes #[] t) >>= _) _ _ s
    refine wpAny_bind (wpAny_of_eq (a := #[]) rfl ?_)
    show wpAny _ _ (if Bytes.tooLong _ = true then _ else _) _ _ s
    rw [if_neg (by decide)]
    exact ends _ rfl
  | cons p r =>
    cases r with
    | nil =>
      show wpAny _ _ (typeOf (bval p) >>= _) _ _ s
      refine wpAny_bind (wpAny_typeOf (typeIs_bytes s p.1.toArray p.2) ?_)
      exact wpAny_bind (wpAny_rule (one p rfl))
    | cons q r =>
      show wpAny _ _ (forIn _ _ _ >>= _) _ _ s
      refine wpAny_bind (inv _ _ (fun i hi => ?_) ?_)
      · show wpAny _ _ (seqItems? (.ref a) >>= _) _ _ s
        refine wpAny_bind (hseq _ _ ?_)
        have hg : ((p :: q :: r).map bval).toArray.getD i .none = bval ((p :: q :: r)[i]) := by
          rw [Array.getD_eq_getD_getElem?, List.getElem?_toArray, List.getElem?_map, List.getElem?_eq_getElem hi]; rfl
        show wpAny _ _ (if (Bytes.Kind.bytes == Bytes.Kind.bytearray || (((p :: q :: r).take i).map fun p => (bval p, (none : Option Value))).any fun x => x.1.onHeap) = true then _ else _) _ _ s
        rw [if_neg (by rw [noHeap]; decide)]
        show wpAny _ _ (holding _ (Bytes.takeBufferQuiet? _ (((p :: q :: r).map bval).toArray.getD i .none) 0) >>= _) _ _ s
        rw [hg]
        refine wpAny_bind (wpAny_holding (wpAny_of_eq take_eq ?_))
        show wpAny _ _ (seqItems? (.ref a) >>= _) _ _ s
        refine wpAny_bind (hseq _ _ ?_)
        show wpAny _ _ (if (((p :: q :: r).map bval).toArray.size != ((p :: q :: r).map bval).toArray.size) = true then _ else _) _ _ s
        rw [if_neg (by simp)]
        refine wpAny_pure ⟨rfl, ?_⟩
        have e : (p :: q :: r).take (i + 1) = (p :: q :: r).take i ++ [(p :: q :: r)[i]] := by
          rw [List.take_add_one, List.getElem?_eq_getElem hi]; rfl
        rw [e, List.map_append, List.map_append]
        simp [bval]
      · show wpAny _ _ (Bytes.payload (.bytes #[] t) >>= _) _ _ s
        refine wpAny_bind (wpAny_of_eq (a := #[]) rfl ?_)
        show wpAny _ _ (if Bytes.tooLong _ = true then _ else _) _ _ s
        rw [if_neg ?_]
        · exact ends _ rfl
        · show ¬ Bytes.tooLong (Array.foldl (fun x1 x2 => x1 + x2.size) (0 * _) (((p :: q :: r).map fun p => p.1.toArray).toArray)) = true
          rw [Nat.zero_mul, fold_size]
          unfold Bytes.tooLong
          simpa using hz
end Bx
section
variable {w : World} {A : Around} {env : Env} {G : Gh} {outer : List Env} {Z : Zt} {vs : List (Option Value)} {mt : List (Addr × Obj)} {s : Shared} {E : Value → Shared → Prop}
theorem G_join {b : Array UInt8} {t : Tok} {pl : Sem Bool} {Q : Value × List Value → Shared → Prop} (h : Q (.builtin "bytes.join", [.bytes b t]) s) : wpAny (model P w) A (getMethod (.bytes b t) "join" pl) Q E s :=
  getMethod_builtin (typeIs_bytes s b t) FB.plainAttrs_bytes Bx.slot_join Bx.type_join (fun a e => by cases e) h
theorem All2.toks {vs : List Value} {xs : List (List UInt8)} (h : All2 BytesV vs xs) : ∃ l : List (List UInt8 × Tok), vs = l.map Bx.bval ∧ xs = l.map (·.1) := by
  induction h with
  | nil => exact ⟨[], rfl, rfl⟩
  | @cons v b _ _ hv _ ih =>
    obtain ⟨t, rfl⟩ := hv
    obtain ⟨l, e1, e2⟩ := ih
    exact ⟨(b, t) :: l, congrArg (Value.bytes b.toArray t :: ·) e1, congrArg (b :: ·) e2⟩
theorem R_join {t : Tok} {l : Addr} {xs : List Value} {c : Nat} {ps : List (List UInt8)} {Q : Value → Shared → Prop} (S : St G Z vs mt s) (hl : s.heap.get? l = some (Lo xs c)) (hx : All2 BytesV xs ps) (hz : ps.flatten.length ≤ sizeLine)
    (h : ∀ t s', St G Z vs mt s' → Q (.bytes ps.flatten.toArray t) s') : wpAny (model P w) A (call (.builtin "bytes.join") [.bytes #[] t, .ref l]) Q E s := by
  obtain ⟨L, rfl, rfl⟩ := hx.toks
  have e : (L.map (·.1)).flatten = L.flatMap (·.1) := by rw [List.flatMap_def]
  rw [e] at hz h
  exact call_meets Bx.slot_join (typeIs_bytes s _ t) Bx.entry_join (Bx.args_join _ _) (Bx.meets_join t l c L hz) ⟨hl, fun t' k => h t' _ S.tok⟩
theorem C_turn1 {scope : Scope} {cl : List (Str × Addr)} {C : Addr} {x : Str} {px : Pos} {v : Value} {m : Str → Option Value} {oC : Obj} {elt : PySem.Expr} {K : Value → Shared → Prop} {K2 : Shared → Prop} (S : St G Z vs ((C, oC) :: mt) s) (hn : NsO m oC) (hkind : scope.kind = .function) (hx : scope.names.lookup x = some .local)
    (h : ∀ m' oC' s', NsO m' oC' → m' x = some v → St G Z vs ((C, oC') :: mt) s' → wpAny (model P w) A (eval elt (compEnvC scope cl C env)) K E s') :
    wpAny (model P w) A (assign (.Name x px) (compEnvC scope cl C env) v) (fun _ s1 => wpAny (model P w) A (testsOf [] (compEnvC scope cl C env)) (fun ok s2 => if ok = true then wpAny (model P w) A (eval elt (compEnvC scope cl C env)) K E s2 else K2 s2) E s1) E s := by
  refine wpAny_assign_Name (C_set S hn hkind hx fun m' oC' s' n' hm' _ S' => ?_)
  refine wpAny_tests_nil ?_
  rw [if_pos rfl]
  exact h m' oC' s' n' hm' S'
end
noncomputable def encStage (rows : List (List (Nat × Nat))) : List UInt8 := encN rows.length ++ (rows.map encRow).flatten
noncomputable def encVals (ws : List (List UInt8)) : List UInt8 := encN ws.length ++ (ws.map fun v => encN v.length ++ v).flatten
structure SmallRow (n : Nat) (r : List (Nat × Nat)) : Prop where
  len : r.length ≤ n
  pr : ∀ p ∈ r, SmallP p
theorem take_map {α β : Type} {l : List α} {i : Nat} {p : α} (f : α → β) (h : l[i]? = some p) : (l.take (i + 1)).map f = (l.take i).map f ++ [f p] := by
  rw [List.take_add_one, h, List.map_append]; rfl
theorem flat_len {α : Type} {k : Nat} : ∀ {l : List (List α)}, (∀ x ∈ l, x.length ≤ k) → l.flatten.length ≤ k * l.length
  | [], _ => by simp
  | x :: l, h => by
    have h1 := h x (.head _)
    have h2 := flat_len fun y hy => h y (.tail _ hy)
    simp only [List.flatten_cons, List.length_append, List.length_cons, Nat.mul_succ] at h2 ⊢
    exact lin2 h1 h2 (by wtm_at "a")
theorem encRow_len {n : Nat} {r : List (Nat × Nat)} (h : SmallRow n r) (hn : n < 2 ^ 60) : (encRow r).length ≤ 9 + 18 * n := by
  have h1 := encPs_len r h.pr
  have h2 := encN_le r.length (by have := h.len; exact lin2 (b := 9223372036854775808) hn this (by wtm_at "p"))
  have h3 := h.len
  unfold encRow
  rw [List.length_append]
  omega
theorem encRows_len {rows : List (List (Nat × Nat))} (hb : ∀ r ∈ rows, SmallRow 100 r) (hn : rows.length ≤ 1000) : ((rows.map encRow).flatten).length ≤ 1809000 := by
  have h1 : ((rows.map encRow).flatten).length ≤ 1809 * (rows.map encRow).length := flat_len fun x hx => by
    obtain ⟨r, hr, rfl⟩ := List.mem_map.mp hx
    exact encRow_len (hb r hr) (by exact (by wtm_at "p"))
  rw [List.length_map] at h1
  omega
theorem fn_stage {w : World} {A : Around} {env : Env} {G : Gh} {outer : List Env} {Z : Zt} {vs : List (Option Value)} {mt : List (Addr × Obj)} {s : Shared} {E Q : Value → Shared → Prop} {pv : Value} (rows : List (List (Nat × Nat)))
    (a : Act w A env G outer) (S : St G Z vs mt s) (hr : Room A 3) (hp : StageV Z pv rows) (hn : rows.length ≤ 1000) (hb : ∀ r ∈ rows, SmallRow 100 r)
    (h : ∀ t' s', St G Z vs mt s' → Q (.bytes (encStage rows).toArray t') s') : wpAny (model P w) A (call (.ref 359) [pv]) Q E s := by
  refine' call_def (f := 359) (foot := []) (rest := mt) (nm := ["rows"]) (gn := ["_law_number", "len"]) (binds := [("rows", pv)]) (vs₁ := [some pv]) (X := fun _ _ _ _ => False) a S ?hd ?ho ?k1 ?k2 ?k3 ?k4 ?k5 ?k6 ?h (fun _ _ _ _ _ _ _ h => h.elim)
  wtm_at "call"
  case hd => exact hr.dep
  case h =>
    intro A' env' G' s' dA uA _ hnm hgn a' S'
    have hr' : Room A' 2 := hr.sub dA uA (by decide)
    have hr1 : Room A' 1 := hr.sub dA uA (by decide)
    obtain ⟨l, xs, c, rfl, hl, hxs⟩ := hp
    have hlen := hxs.length
    wtm_at "x"
    repeat wtm_at "v"
    refine R_len (by assumption) hl (by rw [sizeLine_eq]; exact lin2 hn (Nat.le_of_eq hlen) (by wtm_at "a")) fun t1 s1 S1 => ?_
    wtm_at "v"
    refine (KDef.mk S1 ?_)
    refine fn_number rows.length a' S1 hr1 (by rw [hlen]) (by exact lin1 (b := 9223372036854775808) hn (by wtm_at "a")) fun t2 s2 S2 => ?_
    repeat wtm_at "v"
    refine G_join ?_
    repeat wtm_at "v"
    refine iter_list a' (by assumption) hl fun it s4 o ho hf S4 => ?_
    subst ho
    let J : Nat → Zt → List (Option Value) → List (Addr × Obj) → List Value → Prop := fun i Z' vs' mt' ys => Z' = Z ∧ mt' = [] ∧ vs' = [some (.ref l)] ∧ All2 BytesV ys ((rows.take i).map encRow)
    refine CL.mk it _ _ _ _ Z _ _ J rfl (by rw [sizeLine_eq]; exact lin2 hn (Nat.le_of_eq hlen) (by wtm_at "a")) (steps_list a'.hnd hl hf) (⟨rfl, rfl⟩) S4 (⟨rfl, rfl, rfl, .nil⟩) ?_ ?_
    · rintro C acc i v Z5 vs5 mt5 ys k m oC o5 s5 E5 hi hv _ ⟨rfl, rfl, rfl, hys⟩ hC S5
      obtain ⟨p, hp, hv⟩ := hxs.get hv
      refine C_turn1 S5 hC rfl (by kernel_rfl) fun m' oC' s6 hC' hm' S6 => ?_
      repeat wtm_at "v"
      refine (KDef.mk S6 ?_)
      have hps := hb p (List.mem_of_getElem? hp)
      refine fn_row p a' S6 hr' hv (by have := hps.len; exact lin1 this (by wtm_at "a")) hps.pr fun t7 s7 S7 => ?_
      refine (CTurn.mk (mt3 := []) (Z3 := Z5) hC' S7 (fun _ _ q => q) ⟨rfl, rfl, rfl, ?_⟩)
      rw [take_map encRow hp]
      exact hys.snoc ⟨_, rfl⟩
    · rintro acc Z5 vs5 mt5 ys k _ ⟨rfl, rfl, rfl, hys⟩ hacc s5 S5
      have hz := encRows_len hb hn
      rw [List.take_of_length_le (by exact lin1 (Nat.le_of_eq hlen.symm) (by wtm_at "a"))] at hys
      repeat wtm_at "v"
      refine R_join S5 (S5.has .here) hys (by rw [sizeLine_eq]; exact lin1 hz (by wtm_at "a")) fun t6 s6 S6 => ?_
      have := encN_le rows.length (by exact lin1 (b := 9223372036854775808) hn (by wtm_at "a"))
      refine R_badd S6 (by rw [sizeLine_eq]; exact lin2 hz this (by wtm_at "a")) fun t7 s7 S7 => ?_
      exact (Back.mk S7.nil (fun S => h _ _ S))
theorem encVals_len {ws : List (List UInt8)} (hb : ∀ r ∈ ws, r.length ≤ 1000) (hn : ws.length ≤ 100) : ((ws.map fun v => encN v.length ++ v).flatten).length ≤ 100900 := by
  have h1 : ((ws.map fun v => encN v.length ++ v).flatten).length ≤ 1009 * (ws.map fun v => encN v.length ++ v).length := flat_len fun x hx => by
    obtain ⟨r, hr, rfl⟩ := List.mem_map.mp hx
    have := hb r hr
    have := encN_le r.length (by exact lin1 (b := 9223372036854775808) this (by wtm_at "a"))
    rw [List.length_append]; omega
  rw [List.length_map] at h1
  omega
theorem fn_values {w : World} {A : Around} {env : Env} {G : Gh} {outer : List Env} {Z : Zt} {vs : List (Option Value)} {mt : List (Addr × Obj)} {s : Shared} {E Q : Value → Shared → Prop} {pv : Value} (ws : List (List UInt8))
    (a : Act w A env G outer) (S : St G Z vs mt s) (hr : Room A 3) (hp : BytesLV Z pv ws) (hn : ws.length ≤ 100) (hb : ∀ r ∈ ws, r.length ≤ 1000)
    (h : ∀ t' s', St G Z vs mt s' → Q (.bytes (encVals ws).toArray t') s') : wpAny (model P w) A (call (.ref 364) [pv]) Q E s := by
  refine' call_def (f := 364) (foot := []) (rest := mt) (nm := ["worths"]) (gn := ["_law_number", "len"]) (binds := [("worths", pv)]) (vs₁ := [some pv]) (X := fun _ _ _ _ => False) a S ?hd ?ho ?k1 ?k2 ?k3 ?k4 ?k5 ?k6 ?h (fun _ _ _ _ _ _ _ h => h.elim)
  wtm_at "call"
  case hd => exact hr.dep
  case h =>
    intro A' env' G' s' dA uA _ hnm hgn a' S'
    have hr1 : Room A' 1 := hr.sub dA uA (by decide)
    obtain ⟨l, xs, c, rfl, hl, hxs⟩ := hp
    have hlen := hxs.length
    wtm_at "x"
    repeat wtm_at "v"
    refine R_len (by assumption) hl (by rw [sizeLine_eq]; exact lin2 hn (Nat.le_of_eq hlen) (by wtm_at "a")) fun t1 s1 S1 => ?_
    wtm_at "v"
    refine (KDef.mk S1 ?_)
    refine fn_number ws.length a' S1 hr1 (by rw [hlen]) (by exact lin1 (b := 9223372036854775808) hn (by wtm_at "a")) fun t2 s2 S2 => ?_
    repeat wtm_at "v"
    refine G_join ?_
    repeat wtm_at "v"
    refine iter_list a' (by assumption) hl fun it s4 o ho hf S4 => ?_
    subst ho
    let J : Nat → Zt → List (Option Value) → List (Addr × Obj) → List Value → Prop := fun i Z' vs' mt' ys => Z' = Z ∧ mt' = [] ∧ vs' = [some (.ref l)] ∧ All2 BytesV ys ((ws.take i).map fun v => encN v.length ++ v)
    refine CL.mk it _ _ _ _ Z _ _ J rfl (by rw [sizeLine_eq]; exact lin2 hn (Nat.le_of_eq hlen) (by wtm_at "a")) (steps_list a'.hnd hl hf) (⟨rfl, rfl⟩) S4 (⟨rfl, rfl, rfl, .nil⟩) ?_ ?_
    · rintro C acc i v Z5 vs5 mt5 ys k m oC o5 s5 E5 hi hv _ ⟨rfl, rfl, rfl, hys⟩ hC S5
      obtain ⟨p, hp, tv, rfl⟩ := hxs.get hv
      have hps := hb p (List.mem_of_getElem? hp)
      refine C_turn1 S5 hC rfl (by kernel_rfl) fun m' oC' s6 hC' hm' S6 => ?_
      repeat wtm_at "v"
      refine R_lenB (by assumption) (by rw [sizeLine_eq]; exact lin1 hps (by wtm_at "a")) fun t7 s7 S7 => ?_
      repeat wtm_at "v"
      refine (KDef.mk S7 ?_)
      refine fn_number p.length a' S7 hr1 rfl (by exact lin1 (b := 9223372036854775808) hps (by wtm_at "a")) fun t8 s8 S8 => ?_
      repeat wtm_at "v"
      have := encN_le p.length (by exact lin1 (b := 9223372036854775808) hps (by wtm_at "a"))
      refine R_badd S8 (by rw [sizeLine_eq]; exact lin2 hps this (by wtm_at "a")) fun t9 s9 S9 => ?_
      refine (CTurn.mk (mt3 := []) (Z3 := Z5) hC' S9 (fun _ _ q => q) ⟨rfl, rfl, rfl, ?_⟩)
      rw [take_map _ hp]
      exact hys.snoc ⟨_, rfl⟩
    · rintro acc Z5 vs5 mt5 ys k _ ⟨rfl, rfl, rfl, hys⟩ hacc s5 S5
      have hz := encVals_len hb hn
      rw [List.take_of_length_le (by exact lin1 (Nat.le_of_eq hlen.symm) (by wtm_at "a"))] at hys
      repeat wtm_at "v"
      refine R_join S5 (S5.has .here) hys (by rw [sizeLine_eq]; exact lin1 hz (by wtm_at "a")) fun t6 s6 S6 => ?_
      have := encN_le ws.length (by exact lin1 (b := 9223372036854775808) hn (by wtm_at "a"))
      refine R_badd S6 (by rw [sizeLine_eq]; exact lin2 hz this (by wtm_at "a")) fun t7 s7 S7 => ?_
      exact (Back.mk S7.nil (fun S => h _ _ S))
structure Tb where
  bits : Nat × Nat
  bo : List UInt8
  ws : List (List UInt8)
  lows : List (List (Nat × Nat))
  mids : List (List (Nat × Nat))
  top : List (Nat × Nat)
structure Tb.Ok (T : Tb) : Prop where
  b1 : T.bits.1 ≤ 60
  b2 : T.bits.2 ≤ 60
  bo : T.bo.length ≤ 100
  wn : T.ws.length ≤ 100
  wl : ∀ r ∈ T.ws, r.length ≤ 1000
  ln : T.lows.length ≤ 1000
  ls : ∀ r ∈ T.lows, SmallRow 100 r
  mn : T.mids.length ≤ 1000
  ms : ∀ r ∈ T.mids, SmallRow 100 r
  ts : SmallRow 100 T.top
inductive TbO (w : World) (Z : Zt) (T : Tb) (o : Obj) : Prop
  | mk (vb vo vw vl vm vt : Value) : PairV Z vb T.bits → BytesV vo T.bo → BytesLV Z vw T.ws → StageV Z vl T.lows → StageV Z vm T.mids → RowV Z vt T.top →
  o.IsDictOf (strKind P w) [("bits", vb), ("bits octets", vo), ("worths", vw), ("lows", vl), ("mids", vm), ("top", vt)] → TbO w Z T o
theorem PairV.mono' {Z Z' : Zt} (k : ∀ a o, Z a o → Z' a o) {v : Value} {p : Nat × Nat} : PairV Z v p → PairV Z' v p := PairV.mono k
theorem TbO.mono {w : World} {Z Z' : Zt} {T : Tb} {o : Obj} (k : ∀ a o, Z a o → Z' a o) : TbO w Z T o → TbO w Z' T o := by rintro ⟨vb, vo, vw, vl, vm, vt, a, b, c, d, e, f, g⟩; exact ⟨vb, vo, vw, vl, vm, vt, a.mono k, b, BytesLV.mono k c, StageV.mono k d, StageV.mono k e, RowV.mono k f, g⟩
noncomputable def mark : List UInt8 := [85, 84, 82, 73]
noncomputable def encBody (T : Tb) : List UInt8 := mark ++ T.bo ++ encVals T.ws ++ encStage T.lows ++ encStage T.mids ++ encRow T.top
theorem encStage_len {rows : List (List (Nat × Nat))} (hb : ∀ r ∈ rows, SmallRow 100 r) (hn : rows.length ≤ 1000) : (encStage rows).length ≤ 1809009 := by
  have h1 := encRows_len hb hn
  have h2 := encN_le rows.length (by exact lin1 (b := 9223372036854775808) hn (by wtm_at "a"))
  unfold encStage; rw [List.length_append]; exact lin2 h1 h2 (by wtm_at "a")
theorem encValues_len {ws : List (List UInt8)} (hb : ∀ r ∈ ws, r.length ≤ 1000) (hn : ws.length ≤ 100) : (encVals ws).length ≤ 100909 := by
  have h1 := encVals_len hb hn
  have h2 := encN_le ws.length (by exact lin1 (b := 9223372036854775808) hn (by wtm_at "a"))
  unfold encVals; rw [List.length_append]; exact lin2 h1 h2 (by wtm_at "a")
theorem encBody_len {T : Tb} (h : T.Ok) : (encBody T).length ≤ 4000000 := by
  have h1 := encValues_len h.wl h.wn
  have h2 := encStage_len h.ls h.ln
  have h3 := encStage_len h.ms h.mn
  have h4 := encRow_len h.ts (by exact (by wtm_at "p"))
  have h5 := h.bo
  unfold encBody mark
  simp only [List.length_append, List.length_cons, List.length_nil]
  exact lin5 h1 h2 h3 h4 h5 (by wtm_at "a")
noncomputable def sumStep (x : Nat × Nat) (o : UInt8) : Nat × Nat := ((x.1 + o.toNat) % 65521, (x.2 + (x.1 + o.toNat) % 65521) % 65521)
noncomputable def sums (b : List UInt8) : Nat × Nat := b.foldl sumStep (1, 0)
noncomputable def sumB (b : List UInt8) : List UInt8 := [((sums b).2 / 256).toUInt8, ((sums b).2 % 256).toUInt8, ((sums b).1 / 256).toUInt8, ((sums b).1 % 256).toUInt8]
noncomputable def sealB (b : List UInt8) : List UInt8 := b ++ sumB b
theorem sums_take {b : List UInt8} {i : Nat} {c : UInt8} (h : b[i]? = some c) : sums (b.take (i + 1)) = sumStep (sums (b.take i)) c := by
  unfold sums
  rw [List.take_add_one, h, List.foldl_append]; rfl
theorem sums_lt : ∀ (b : List UInt8), (sums b).1 < 65521 ∧ (sums b).2 < 65521 := by
  have key : ∀ (b : List UInt8) (x : Nat × Nat), x.1 < 65521 ∧ x.2 < 65521 → (b.foldl sumStep x).1 < 65521 ∧ (b.foldl sumStep x).2 < 65521 := by
    intro b
    induction b with
    | nil => intro x h; exact h
    | cons c b ih =>
      intro x h
      rw [List.foldl_cons]
      exact ih _ ⟨Nat.mod_lt _ (by wtm_at "a"), Nat.mod_lt _ (by wtm_at "a")⟩
  intro b
  exact key b (1, 0) ⟨by decide, by decide⟩
theorem fn_body {w : World} {A : Around} {env : Env} {G : Gh} {outer : List Env} {Z : Zt} {vs : List (Option Value)} {mt : List (Addr × Obj)} {s : Shared} {E Q : Value → Shared → Prop} {d : Addr} {o : Obj} (T : Tb)
    (a : Act w A env G outer) (S : St G Z vs mt s) (hr : Room A 4) (hd : Z d o) (hT : TbO w Z T o) (ok : T.Ok)
    (h : ∀ t' s', St G Z vs mt s' → Q (.bytes (encBody T).toArray t') s') : wpAny (model P w) A (call (.ref 371) [.ref d]) Q E s := by
  refine' call_def (f := 371) (foot := []) (rest := mt) (nm := ["w", "head"]) (gn := ["_law_values", "_law_stage", "_law_row"]) (binds := [("w", .ref d)]) (vs₁ := [some (.ref d), none]) (X := fun _ _ _ _ => False) a S ?hd ?ho ?k1 ?k2 ?k3 ?k4 ?k5 ?k6 ?h (fun _ _ _ _ _ _ _ h => h.elim)
  wtm_at "call"
  case hd => exact hr.dep
  case h =>
    intro A' env' G' s' dA uA _ hnm hgn a' S'
    have hr3 : Room A' 3 := hr.sub dA uA (by decide)
    have hr2 : Room A' 2 := hr.sub dA uA (by decide)
    obtain ⟨vb, vo, vw, vl, vm, vt, hb, ⟨to, rfl⟩, hw, hl, hm, ht, hD⟩ := hT
    have h1 := encValues_len ok.wl ok.wn
    have h2 := encStage_len ok.ls ok.ln
    have h3 := encStage_len ok.ms ok.mn
    have h4 := encRow_len ok.ts (by exact (by wtm_at "p"))
    have h5 := ok.bo
    have h6 := ok.ts.len
    wtm_at "x"
    repeat wtm_at "v"
    refine T_dict rfl (by assumption) (St.z (by assumption) _ _ hd) hD rfl fun s1 S1 => ?_
    refine R_badd (b := mark) S1 (by rw [sizeLine_eq]; simp only [mark, List.length_cons, List.length_nil]; exact lin1 h5 (by wtm_at "a")) fun t2 s2 S2 => ?_
    repeat wtm_at "v"
    refine T_dict rfl (by assumption) (St.z (by assumption) _ _ hd) hD rfl fun s3 S3 => ?_
    repeat wtm_at "v"
    refine (KDef.mk S3 ?_)
    refine fn_values T.ws a' S3 hr3 hw ok.wn ok.wl fun t4 s4 S4 => ?_
    refine R_badd S4 (by rw [sizeLine_eq]; simp only [mark, List.length_append, List.length_cons, List.length_nil]; exact lin2 h1 h5 (by wtm_at "a")) fun t5 s5 S5 => ?_
    wtm_at "set"
    wtm_at "x"
    repeat wtm_at "v"
    refine T_dict rfl (by assumption) (St.z (by assumption) _ _ hd) hD rfl fun s6 S6 => ?_
    repeat wtm_at "v"
    refine (KDef.mk S6 ?_)
    refine fn_stage T.lows a' S6 hr3 hl ok.ln ok.ls fun t7 s7 S7 => ?_
    refine R_badd S7 (by rw [sizeLine_eq]; simp only [mark, List.length_append, List.length_cons, List.length_nil]; exact lin3 h1 h2 h5 (by wtm_at "a")) fun t8 s8 S8 => ?_
    repeat wtm_at "v"
    refine T_dict rfl (by assumption) (St.z (by assumption) _ _ hd) hD rfl fun s9 S9 => ?_
    repeat wtm_at "v"
    refine (KDef.mk S9 ?_)
    refine fn_stage T.mids a' S9 hr3 hm ok.mn ok.ms fun t10 s10 S10 => ?_
    refine R_badd S10 (by rw [sizeLine_eq]; simp only [mark, List.length_append, List.length_cons, List.length_nil]; exact lin4 h1 h2 h3 h5 (by wtm_at "a")) fun t11 s11 S11 => ?_
    repeat wtm_at "v"
    refine T_dict rfl (by assumption) (St.z (by assumption) _ _ hd) hD rfl fun s12 S12 => ?_
    repeat wtm_at "v"
    refine (KDef.mk S12 ?_)
    refine fn_row T.top a' S12 hr2 ht (by exact lin1 h6 (by wtm_at "a")) ok.ts.pr fun t13 s13 S13 => ?_
    refine R_badd S13 (by rw [sizeLine_eq]; simp only [mark, List.length_append, List.length_cons, List.length_nil]; exact lin5 h1 h2 h3 h4 h5 (by wtm_at "a")) fun t14 s14 S14 => ?_
    exact (Back.mk S14 (fun S => h _ _ S))
section
variable {w : World} {A : Around} {env : Env} {G : Gh} {outer : List Env} {Z : Zt} {vs : List (Option Value)} {mt : List (Addr × Obj)} {s : Shared} {E : Value → Shared → Prop}
theorem R_bytesL {l : Addr} {xs : List Value} {ns : List Int} {Q : Value → Shared → Prop} (a : Act w A env G outer) (S : St G Z vs mt s) (hl : s.heap.IsList l xs.toArray) (hi : IntsAre xs ns) (hb : ∀ n ∈ ns, 0 ≤ n ∧ n < 256) (hz : xs.length ≤ sizeLine)
    (h : ∀ t s', St G Z vs mt s' → Q (.bytes (byteArr ns) t) s') : wpAny (model P w) A (call (.type "bytes") [.ref l]) Q E s :=
  call_bytes_ints hl hi hb hz a.hnd fun _ t _ hk => h t _ (S.grow hk)
end
theorem fn_sealed {w : World} {A : Around} {env : Env} {G : Gh} {outer : List Env} {Z : Zt} {vs : List (Option Value)} {mt : List (Addr × Obj)} {s : Shared} {E Q : Value → Shared → Prop} (b : List UInt8) {tb : Tok}
    (a : Act w A env G outer) (S : St G Z vs mt s) (hr : Room A 1) (hz : b.length ≤ 16000000)
    (h : ∀ t' s', St G Z vs mt s' → Q (.bytes (sealB b).toArray t') s') : wpAny (model P w) A (call (.ref 378) [.bytes b.toArray tb]) Q E s := by
  refine' call_def (f := 378) (foot := []) (rest := mt) (nm := ["body", "low", "high", "octet"]) (gn := ["bytes"]) (binds := [("body", .bytes b.toArray tb)]) (vs₁ := [some (.bytes b.toArray tb), none, none, none]) (X := fun _ _ _ _ => False) a S ?hd ?ho ?k1 ?k2 ?k3 ?k4 ?k5 ?k6 ?h (fun _ _ _ _ _ _ _ h => h.elim)
  wtm_at "call"
  case hd => exact hr.dep
  case h =>
    intro A' env' G' s' dA uA _ hnm hgn a' S'
    refine X_tp2 a' hnm rfl (sw_folded a' rfl) ?_
    repeat wtm_at "v"
    rename_i t1 _ _ t2 _ _ l s1 S1 _
    refine ⟨l, _, _, _, _, _, _, _, _, rfl, S1.nil, S1.has .here, by wtm_at "put", by wtm_at "put", fun s2 S2 => ?_⟩
    wtm_at "x"
    repeat wtm_at "v"
    refine iter_bytes a' S2 fun it s4 o ho hf S4 => ?_
    subst ho
    let J : Nat → Zt → List (Option Value) → List (Addr × Obj) → Prop := fun i Z' vs' mt' => Z' = Z ∧ mt' = [] ∧ ∃ t1 t2 m, vs' = [some (.bytes b.toArray tb), some (.int ((sums (b.take i)).1 : Int) t1), some (.int ((sums (b.take i)).2 : Int) t2), m]
    refine Loop.mk it _ _ _ _ Z _ _ J rfl (steps_bytes a'.hnd hf) (⟨rfl, rfl⟩) S4 (⟨rfl, rfl, t1, t2, none, rfl⟩) ?_ ?_
    · rintro i v Z5 vs5 mt5 o5 s5 hi ⟨c, u, hc, rfl⟩ _ ⟨rfl, rfl, t1, t2, m, rfl⟩ S5
      refine T_name a' S5 hnm (by wtm_at "put") fun s6 S6 => ?_
      have hc' : b[i]? = some c := by simpa using hc
      have e := sums_take hc'
      wtm_at "x"
      repeat wtm_at "v"
      wtm_at "set"
      wtm_at "x"
      repeat wtm_at "v"
      wtm_at "set"
      rename_i S9
      wtm_at "x"
      have e1 : (((sums (b.take i)).1 : Int) + (c.toNat : Int)).fmod 65521 = ((sums (b.take (i + 1))).1 : Int) := by
        rw [e]; show _ = (((_ + _) % 65521 : Nat) : Int); rw [← fmodN]; rfl
      have e2 : (((sums (b.take i)).2 : Int) + (((sums (b.take i)).1 : Int) + (c.toNat : Int)).fmod 65521).fmod 65521 = ((sums (b.take (i + 1))).2 : Int) := by
        rw [e1]
        have : (sums (b.take (i + 1))).2 = ((sums (b.take i)).2 + (sums (b.take (i + 1))).1) % 65521 := by rw [e]; rfl
        rw [this, ← fmodN]; rfl
      rw [e1] at S9
      rw [e1] at e2
      rw [e2] at S9
      exact (Turn.mk S9 (fun _ _ q => q) ⟨rfl, rfl, _, _, _, rfl⟩)
    · rintro Z5 vs5 mt5 s5 _ ⟨rfl, rfl, t1, t2, m, rfl⟩ S5
      rw [show b.take b.toArray.size = b by simp] at S5
      obtain ⟨l1, l2⟩ := sums_lt b
      wtm_at "x"
      repeat wtm_at "v"
      have f1 : ((sums b).2 : Int).fdiv 256 = (((sums b).2 / 256 : Nat) : Int) := fdivN _ 256
      have f2 : ((sums b).2 : Int).fmod 256 = (((sums b).2 % 256 : Nat) : Int) := fmodN _ 256
      have f3 : ((sums b).1 : Int).fdiv 256 = (((sums b).1 / 256 : Nat) : Int) := fdivN _ 256
      have f4 : ((sums b).1 : Int).fmod 256 = (((sums b).1 % 256 : Nat) : Int) := fmodN _ 256
      refine R_bytesL a' (by assumption) (St.isList (by assumption) .here) (.cons _ _ (.cons _ _ (.cons _ _ (.cons _ _ .nil)))) ?_ (by rw [sizeLine_eq]; exact nb rfl) fun t6 s6 S6 => ?_
      · rw [f1, f2, f3, f4]
        intro n hn
        simp only [List.mem_cons, List.not_mem_nil, or_false] at hn
        have q : ∀ x : Nat, x < 65536 → (0 : Int) ≤ ((x / 256 : Nat) : Int) ∧ ((x / 256 : Nat) : Int) < 256 := fun x h => ⟨Int.natCast_nonneg _, Int.ofNat_lt.mpr (Nat.div_lt_of_lt_mul h)⟩
        have r : ∀ x : Nat, (0 : Int) ≤ ((x % 256 : Nat) : Int) ∧ ((x % 256 : Nat) : Int) < 256 := fun x => ⟨Int.natCast_nonneg _, Int.ofNat_lt.mpr (Nat.mod_lt _ (by decide))⟩
        rcases hn with rfl | rfl | rfl | rfl
        · exact q _ (Nat.lt_trans l2 (by decide))
        · exact r _
        · exact q _ (Nat.lt_trans l1 (by decide))
        · exact r _
      · have e : byteArr [((sums b).2 : Int).fdiv 256, ((sums b).2 : Int).fmod 256, ((sums b).1 : Int).fdiv 256, ((sums b).1 : Int).fmod 256] = (sumB b).toArray := by
          rw [f1, f2, f3, f4]
          unfold byteArr sumB
          simp only [List.map_cons, List.map_nil, Int.toNat_natCast]
        rw [e]
        refine R_badd S6 (by rw [sizeLine_eq]; simp only [sumB, List.length_cons, List.length_nil]; exact lin1 hz (by wtm_at "a")) fun t7 s7 S7 => ?_
        exact (Back.mk S7.nil (fun S => h _ _ S))
noncomputable def atRow : List (Nat × Nat) → Nat → Option Nat
  | [], _ => none
  | (m, n) :: r, p => if p < m then some n else atRow r (p - m)
theorem fn_at {w : World} {A : Around} {env : Env} {G : Gh} {outer : List Env} {Z : Zt} {vs : List (Option Value)} {mt : List (Addr × Obj)} {s : Shared} {E Q : Value → Shared → Prop} {pv : Value} (ps : List (Nat × Nat)) (p n : Nat) {tp : Tok}
    (a : Act w A env G outer) (S : St G Z vs mt s) (hr : Room A 1) (hp : RowV Z pv ps) (hn : atRow ps p = some n)
    (h : ∀ t' s', St G Z vs mt s' → Q (.int (n : Int) t') s') : wpAny (model P w) A (call (.ref 390) [pv, .int (p : Int) tp]) Q E s := by
  refine' call_def (f := 390) (foot := []) (rest := mt) (nm := ["pairs", "place", "many", "number"]) (gn := []) (binds := [("pairs", pv), ("place", .int (p : Int) tp)]) (vs₁ := [some pv, some (.int (p : Int) tp), none, none]) (X := fun _ _ _ _ => False) a S ?hd ?ho ?k1 ?k2 ?k3 ?k4 ?k5 ?k6 ?h (fun _ _ _ _ _ _ _ h => h.elim)
  wtm_at "call"
  case hd => exact hr.dep
  case h =>
    intro A' env' G' s' dA uA _ hnm hgn a' S'
    obtain ⟨l, xs, c, rfl, hl, hxs⟩ := hp
    have hlen := hxs.length
    wtm_at "x"
    repeat wtm_at "v"
    refine iter_list a' S' hl fun it s4 o ho hf S4 => ?_
    subst ho
    let J : Nat → Zt → List (Option Value) → List (Addr × Obj) → Prop := fun i Z' vs' mt' => Z' = Z ∧ mt' = [] ∧ ∃ (q : Nat) (t1 : Tok) (m1 m2 : Option Value), vs' = [some (.ref l), some (.int (q : Int) t1), m1, m2] ∧ atRow (ps.drop i) q = some n
    refine Loop.mk it _ _ _ _ Z _ _ J rfl (steps_list a'.hnd hl hf) (⟨rfl, rfl⟩) S4 (⟨rfl, rfl, p, tp, none, none, rfl, hn⟩) ?_ ?_
    · rintro i v Z5 vs5 mt5 o5 s5 hi hv _ ⟨rfl, rfl, q, t1, m1, m2, rfl, hq⟩ S5
      obtain ⟨⟨m, k⟩, hp, pa, t2, t3, pc, rfl, hpa⟩ := hxs.get hv
      have hd : ps.drop i = (m, k) :: ps.drop (i + 1) := by
        rw [List.drop_eq_getElem_cons (by exact lin2 (Nat.le_of_eq hlen) hi (by wtm_at "a"))]
        rw [List.getElem?_eq_getElem (by exact lin2 (Nat.le_of_eq hlen) hi (by wtm_at "a"))] at hp
        rw [Option.some.inj hp]
      rw [hd, atRow] at hq
      refine T_pair a' S5 hnm (S5.z _ _ hpa) (by wtm_at "put") (by wtm_at "put") fun s6 S6 => ?_
      wtm_at "x"
      repeat wtm_at "v"
      refine ite_dec (fun lt => ?_) fun ge => ?_
      · rw [if_pos (by simpa using lt)] at hq
        cases hq
        wtm_at "x"
        repeat wtm_at "v"
        exact (Back.mk S6.nil (fun S => h _ _ S))
      · rw [if_neg (by simpa using ge)] at hq
        wtm_at "x"
        wtm_at "x"
        wtm_at "x"
        repeat wtm_at "v"
        wtm_at "set"
        rename_i S9
        wtm_at "x"
        rw [show ((q : Int) - (m : Int)) = ((q - m : Nat) : Int) by simp at ge; omega] at S9
        exact (Turn.mk S9 (fun _ _ q => q) ⟨rfl, rfl, _, _, _, _, rfl, hq⟩)
    · rintro Z5 vs5 mt5 s5 _ ⟨rfl, rfl, q, t1, m1, m2, rfl, hq⟩ S5
      rw [List.drop_eq_nil_of_le (by exact lin1 (Nat.le_of_eq hlen.symm) (by wtm_at "a"))] at hq
      cases hq
theorem lk_sto (kvs : List (Str × Value)) (x : Str) (v : Value) (y : Str) : lk (sto kvs x v) y = if y = x then some v else lk kvs y := by
  induction kvs with
  | nil =>
    show (if x = y then some v else none) = if y = x then some v else none
    by_cases h : y = x
    · rw [if_pos h, if_pos h.symm]
    · rw [if_neg h, if_neg (Ne.symm h)]
  | cons p r ih =>
    obtain ⟨k, u⟩ := p
    rw [sto]
    by_cases h : k = x
    · rw [if_pos h, lk, lk]
      by_cases q : y = x
      · rw [if_pos q, if_pos (h.trans q.symm)]
      · rw [if_neg q, if_neg fun e => q (e.symm.trans h), if_neg fun e => q (e.symm.trans h)]
    · rw [if_neg h, lk, lk, ih]
      by_cases q : k = y
      · rw [if_pos q, if_pos q, if_neg fun e => h (q.trans e)]
      · rw [if_neg q, if_neg q]
theorem sto_len (kvs : List (Str × Value)) (x : Str) (v : Value) : (sto kvs x v).length = if (lk kvs x).isSome then kvs.length else kvs.length + 1 := by
  induction kvs with
  | nil => rfl
  | cons p r ih =>
    obtain ⟨k, u⟩ := p
    rw [sto, lk]
    by_cases h : k = x
    · rw [if_pos h, if_pos h]; rfl
    · rw [if_neg h, if_neg h, List.length_cons, ih]
      by_cases q : (lk r x).isSome = true
      · rw [if_pos q, if_pos q]; rfl
      · rw [if_neg q, if_neg q]; rfl
inductive DO (kvs : List (Str × Value)) (o : Obj) : Prop
  | mk (es : Array DictEntry) (ep : Nat) : o.data = .dict es ep → StrKeys es → (∀ name, nsFind es name = lk kvs name) → es.size = kvs.length → DO kvs o
theorem DO.empty {o : Obj} (h : o.data = .dict #[] 0) : DO [] o := ⟨_, _, h, (by intro e he; simp at he), fun _ => rfl, rfl⟩
theorem DO.look {kvs : List (Str × Value)} {o : Obj} (h : DO kvs o) (name : Str) : lookIn name o = some (lk kvs name) := by
  obtain ⟨es, ep, hd, hk, hf, _⟩ := h
  unfold lookIn
  rw [hd]
  dsimp only
  have := hf name
  unfold nsFind findBy at this
  rw [← Array.find?_toList] at this
  cases q : List.find? (fun x => x.key.isStr name) es.toList with
  | some e => rw [q] at this; dsimp only; rw [← this]; rfl
  | none =>
    rw [q] at this
    dsimp only
    rw [← this, if_neg]
    · rfl
    · rw [List.any_eq_true]
      rintro ⟨e, he, hr⟩
      obtain ⟨n, t, h⟩ := hk e (Array.mem_toList_iff.mp he)
      simp [DictEntry.refKey, h] at hr
theorem DO.free {kvs : List (Str × Value)} {o : Obj} (h : DO kvs o) : o.isFreed = false := by
  obtain ⟨es, ep, hd, _⟩ := h
  obtain ⟨cc, dd, dt, sl⟩ := o
  dsimp only at hd
  subst hd; rfl
theorem DO.noRef {es : Array DictEntry} (hk : StrKeys es) : es.any (·.refKey) = false := by
  rw [Array.any_eq_false']; intro e he; obtain ⟨n, t, h⟩ := hk e he; simp [DictEntry.refKey, h]
theorem DO.put {kvs : List (Str × Value)} {o : Obj} (h : DO kvs o) (name : Str) (hash : Int) (tk : Tok) (v : Value) : DO (sto kvs name v) (Obj.putName name hash (.str name tk) v o) := by
  obtain ⟨es, ep, hd, hk, hf, hz⟩ := h
  obtain ⟨c, d, dt, sl⟩ := o
  dsimp only at hd
  subst hd
  have hn : lk kvs name = findBy (fun n v => v.isStr n) es name := (hf name).symm
  cases hi : es.findIdx? (·.key.isStr name) with
  | some i =>
    refine ⟨_, ep, by simp only [Obj.putName_eq, Obj.putNameByArray, hi]; rfl, hk.modify _ _, fun x => ?_, ?_⟩
    · rw [lk_sto, ← hf]
      exact findBy_modify (fun n v => v.isStr n) Value.isStr_inj es name x v i hi
    · rw [Array.size_modify, hz, sto_len, if_pos]
      rw [hn]
      unfold findBy
      rw [Option.isSome_map, ← Array.find?_toList, List.find?_isSome]
      obtain ⟨h1, h2, _⟩ := Array.findIdx?_eq_some_iff_getElem.mp hi
      exact ⟨_, Array.mem_toList_iff.mpr (Array.getElem_mem h1), h2⟩
  | none =>
    refine ⟨_, ep + 1, by simp only [Obj.putName_eq, Obj.putNameByArray, hi]; rfl, hk.push _ _ _ _, fun x => ?_, ?_⟩
    · rw [lk_sto, ← hf]
      exact findBy_push (fun n v => v.isStr n) es name x _ _ v (fun y => by
        show (name == y) = decide (y = name)
        by_cases h : y = name
        · subst h; simp
        · rw [decide_eq_false h]; exact beq_eq_false_iff_ne.mpr (Ne.symm h)) hi
    · rw [Array.size_push, hz, sto_len, if_neg]
      rw [hn]
      unfold findBy
      rw [Option.isSome_map, ← Array.find?_toList, List.find?_isSome]
      rintro ⟨e, he, hr⟩
      have := Array.findIdx?_eq_none_iff.mp hi e (Array.mem_toList_iff.mp he)
      exact absurd (hr.symm.trans this) (by decide)
section
variable {w : World} {A : Around} {env : Env} {G : Gh} {outer : List Env} {Z : Zt} {vs : List (Option Value)} {mt : List (Addr × Obj)} {s : Shared} {E : Value → Shared → Prop}
theorem R_get {x C dx : Addr} {od : Obj} {kvs : List (Str × Value)} {name : Str} {v : Value} {attr : Option Value} {expr : Bool} {Q : Value → Shared → Prop} (a : Act w A env G outer) (S : St G Z vs mt s)
    (hx : Z x (instObj C dx)) (hd : s.heap.get? dx = some od) (hD : DO kvs od) (hv : lk kvs name = some v)
    (hg : plainGet (KK w) C name = true) (hh : hasDictIn (KK w) C = true) (ha : findIn (KK w) (.ref C) name = some attr) (hn : noGet (KK w) attr = true) (hb : handedIn v = true)
    (h : ∀ s', St G Z vs mt s' → Q v s') : wpAny (model P w) A (getAttr (.ref x) name expr) Q E s :=
  get_value (a.kh S) ⟨S.z _ _ hx, rfl, rfl, hd⟩ (plainGet_of hg).1 (findObj_own hh ha hn ((hD.look name).trans (congrArg some hv))) hb (h _ S.tok)
theorem R_meth {x C dx f : Addr} {od : Obj} {kvs : List (Str × Value)} {name : Str} {pl : Sem Bool} {Q : Value × List Value → Shared → Prop} (a : Act w A env G outer) (S : St G Z vs mt s)
    (hx : Z x (instObj C dx)) (hd : s.heap.get? dx = some od) (hD : DO kvs od) (hv : lk kvs name = none)
    (hg : plainGet (KK w) C name = true) (hf : findIn (KK w) (.ref C) name = some (some (.ref f))) (ht : isFn (KK w) (.ref f) = true)
    (h : Q (.ref f, [.ref x]) s) : wpAny (model P w) A (getMethod (.ref x) name pl) Q E s :=
  method_fn (od := some od) (a.kh S) ⟨S.z _ _ hx, rfl, rfl, hd⟩ (plainGet_of hg).1 (plainGet_of hg).2 hf (beq_iff_eq.mp ht) (by show (lookIn name od).map _ = _; rw [hD.look, hv]; rfl) h
theorem R_set {x C dx : Addr} {ox od : Obj} {kvs : List (Str × Value)} {name : Str} {v : Value} {mt' : Obj → List (Addr × Obj)} {Q : Unit → Shared → Prop} (a : Act w A env G outer) (S : St G Z vs mt s)
    (hx : s.heap.get? x = some ox) (hxc : ox.cls = .ref C) (hxn : notCls ox = true) (hxd : ox.dict = some dx) (c : ∀ o', Chg dx od o' mt (mt' o')) (hD : DO kvs od) (hz : kvs.length ≤ 1000)
    (hs : findIn (KK w) (.ref C) "__setattr__" = some (some (.builtin "object.__setattr__"))) (hp : plainOver (KK w) C = true) (ht : takerIn (KK w) C name = some none) (hh : hasDictIn (KK w) C = true)
    (h : ∀ o' s', DO (sto kvs name v) o' → St G Z vs (mt' o') s' → Q () s') : wpAny (model P w) A (setAttr (.ref x) name v) Q E s := by
  have hdx := (S.mu _ (c od).mem).1
  have X := a.kh S
  have I : InstAt s.heap x ox C (some od) := ⟨hx, hxc, hxn, by rw [hxd]; exact hdx⟩
  obtain ⟨hh', gg, dr, tk, os⟩ := s
  refine set_plain X I hs (osa_open X I hp ht fun b => ?_)
  obtain ⟨cd, hc, hd'⟩ := any_some hh
  obtain ⟨oc, odi, oda, osl⟩ := ox
  dsimp only at hxc hxd
  subst hxc hxd
  refine wpAny_bind (wpAny_pure (wpAny_bind (wpAny_bind (wpAny_loadPart hx (wpAny_bind ((looks_clsIn X hc).at ?_))))))
  rw [hd']
  refine wpAny_pure (a := some dx) (wpAny_bind (wpAny_pure (wpAny_bind ?_)))
  unfold nsSet
  refine wpAny_bind (wpAny_bind (wpAny_askSetting (wpAny_pure (wpAny_bind (wpAny_mkText (wpAny_bind (wpAny_loadPart hdx ?_)))))))
  have D' := hD.put name (PyData.keyHash w.params name) (tk + 1) v
  obtain ⟨es, ep, hd, hk, hf, hz'⟩ := hD
  rw [hd]
  dsimp only
  rw [aRefKeyMayBeTheName_eq, aRefKeyMayBeTheNameByArray, DO.noRef hk, Bool.and_false]
  refine wpAny_updatePart hdx ?_
  have hnf : (Obj.putName name (PyData.keyHash w.params name) (.str name (tk + 1)) v od).isFreed = false := by
    exact D'.free
  have hnew := Heap.get?_update_self (Obj.putName name (PyData.keyHash w.params name) (.str name (tk + 1)) v) hdx hnf
  refine wpAny_bind (wpAny_lookBehind hnew ?_ ?_)
  · obtain ⟨es', ep', q, _, _, z⟩ := D'
    rw [q]
    refine pastItsLine_dict ?_
    rw [z, sto_len, sizeLine_eq]
    split <;> omega
  · exact wpAny_pure (h _ _ D' (S.chg (tk := tk + 1 + 1) (c _) (.update ..) hnew))
end
theorem Act.frames_are {w : World} {A : Around} {env : Env} {G : Gh} {outer : List Env} (a : Act w A env G outer) : (env :: outer).filterMap (·.frame) = G.L :: G.fr := by
  rw [List.filterMap_cons, a.frm, a.out]
theorem St.slots {w : World} {A : Around} {env : Env} {G : Gh} {outer : List Env} {Z : Zt} {vs : List (Option Value)} {mt : List (Addr × Obj)} {s : Shared} {h' : Heap} {tk : Tok} (a : Act w A env G outer) (S : St G Z vs mt s)
    (hs : Heap.SlotsOnly ((env :: outer).filterMap (·.frame)) s.heap h') : St G Z vs mt { s with heap := h', toks := tk } := by
  rw [a.frames_are] at hs
  obtain ⟨h1, h2, h3⟩ := hs
  refine ⟨?_, S.len, S.newL, fun b o e k1 k2 => ?_, fun b o e k1 => ?_, fun b o e => ?_, fun b o za => ?_, S.zs, S.zn, S.zL, S.zF, fun p hp => ?_, S.nd, S.gens, S.drawn, S.os⟩
  · obtain ⟨o, es, ep, ho, hd, r⟩ := S.ns
    obtain ⟨sl, q⟩ := h3 _ _ ho
    exact ⟨_, es, ep, q, hd, r⟩
  · refine (h2 b fun q => ?_).trans (S.keep b o e k1 k2)
    rcases List.mem_cons.mp q with rfl | q
    · rw [S.newL] at e; cases e
    · exact k2 q
  · obtain ⟨sl, q⟩ := S.keepF b o e k1
    obtain ⟨sl', q'⟩ := h3 _ _ q
    exact ⟨sl', q'⟩
  · obtain ⟨o', q⟩ := Option.isSome_iff_exists.mp (S.live b o e)
    obtain ⟨sl, q'⟩ := h3 _ _ q
    show (h'.get? b).isSome = true
    rw [q']; rfl
  · refine (h2 b fun q => ?_).trans (S.z _ _ za)
    rcases List.mem_cons.mp q with rfl | q
    · exact S.zL _ za
    · exact S.zF _ _ za q
  · have M := S.mu p hp
    refine ⟨(h2 p.1 fun q => ?_).trans M.1, M.2⟩
    rcases List.mem_cons.mp q with q | q
    · exact M.2.1 q
    · exact M.2.2.1 q
inductive ExO (Z : Zt) (word : Str) (o : Obj) : Prop
  | mk (dx : Addr) (od : Obj) (tw : Tok) : o.cls = .ref 45 → o.dict = some dx → Z dx od → DO [("told", .str word tw)] od → ExO Z word o
theorem ExO.fields {Z : Zt} {word : Str} {o : Obj} {f : Array Value → Array Value} (h : ExO Z word o) : ExO Z word (o.mapFields f) := by
  obtain ⟨dx, od, tw, a, b, c, d⟩ := h
  obtain ⟨oc, odd, dt, sl⟩ := o
  cases dt <;> exact ⟨dx, od, tw, a, b, c, d⟩
inductive FlA (L : Addr) : Obj → List (Addr × Obj) → Prop
  | fresh {o : Obj} {fs : Array Value} : o.data = .fields fs → fs[1]? = some .none → FlA L o []
  | noted {o oT : Obj} {T : Addr} {fs ts : Array Value} : o.data = .fields fs → fs[1]? = some (.ref T) → oT.data = .fields ts → (ts[3]? = some .none ∨ ts[3]? = some (rawInt L)) → FlA L o [(T, oT)]
inductive FlAt (f : Value) (o : Obj) (tl : List (Addr × Obj)) : Prop
  | mk (T : Addr) (oT : Obj) (fs ts : Array Value) : tl = [(T, oT)] → o.data = .fields fs → fs[1]? = some (.ref T) → oT.data = .fields ts → ts[3]? = some f → FlAt f o tl
theorem FlAt.any {L : Addr} {o : Obj} {tl : List (Addr × Obj)} (h : FlAt .none o tl) : FlA L o tl := by
  obtain ⟨T, oT, fs, ts, rfl, a, b, c, d⟩ := h
  exact .noted a b c (.inl d)
theorem FlAt.any' {L : Addr} {o : Obj} {tl : List (Addr × Obj)} (h : FlAt (rawInt L) o tl) : FlA L o tl := by
  obtain ⟨T, oT, fs, ts, rfl, a, b, c, d⟩ := h
  exact .noted a b c (.inr d)
inductive Thr (G : Gh) (vs : List (Option Value)) (word : Str) (F : Obj → List (Addr × Obj) → Prop) (e : Value) (s : Shared) : Prop
  | mk (x : Addr) (o : Obj) (Z : Zt) (tl : List (Addr × Obj)) : e = .ref x → ExO Z word o → F o tl → St G Z vs ((x, o) :: tl) s → Thr G vs word F e s
theorem Thr.imp {G : Gh} {vs : List (Option Value)} {word : Str} {F F' : Obj → List (Addr × Obj) → Prop} {e : Value} {s : Shared} (k : ∀ o tl, F o tl → F' o tl) : Thr G vs word F e s → Thr G vs word F' e s := by
  rintro ⟨x, o, Z, tl, a, b, c, d⟩; exact ⟨x, o, Z, tl, a, b, k _ _ c, d⟩
section
variable {w : World} {A : Around} {env : Env} {G : Gh} {outer : List Env} {Z : Zt} {vs : List (Option Value)} {mt foot rest : List (Addr × Obj)} {s : Shared} {E : Value → Shared → Prop} {word : Str}
theorem entry_made {A₀ : Around} {x : Addr} {o : Obj} {tl : List (Addr × Obj)} {fs : Array Value} {head : Value} {had : Bool} {Q : Unit → Shared → Prop} (a : Act w A₀ env G outer) (hfr : A.frames = some (env :: outer)) (S : St G Z vs ((x, o) :: tl) s)
    (he : ExO Z word o) (hd : o.data = .fields fs) (hz : 1 < fs.size) (h : ∀ s', Thr G vs word (FlAt (rawInt G.L)) (.ref x) s' → Q () s') :
    wpAny (model P w) A (do let a ← frameOf env; let pl ← entryPlaceOf G.L had; let b ← EntryCells.newEntry head a .none (rawInt G.L) .none pl; setField (.ref x) 1 b) Q E s := by
  refine wpAny_bind (wpAny_frameOf_fun hfr (a.below S) a.frm fun h₁ hs₁ => ?_)
  refine wpAny_bind (wpAny_entryPlaceOf fun pl hpl => ?_)
  unfold EntryCells.newEntry newFields
  refine wpAny_bind (wpAny_newObj_type ?_ (hpl.sizeOk5 _ _ _ _ _))
  have S1 := S.slots (tk := s.toks) a hs₁
  have S2 := S1.push a { cls := .type "traceback", dict := none, data := .fields ([head, .ref G.L, .none, rawInt G.L, .none] ++ (if pl.isEmpty then List.replicate 6 Value.none else pl)).toArray } rfl s.toks
  have hx := (S2.mu _ (.tail _ (.head _))).1
  refine wpAny_setField hx hd hz (h _ ?_)
  have hd₃ := Obj.data_mapFields hd (·.setIfInBounds 1 (Value.ref h₁.objs.size))
  have S3 := S2.chg (tk := s.toks) (.there .here) (Heap.SameBut.update _ x (Obj.mapFields (·.setIfInBounds 1 (Value.ref h₁.objs.size)))) (Heap.get?_update_self _ hx (Obj.isFreed_of_fields hd₃))
  refine ⟨x, _, Z, [(h₁.objs.size, _)], rfl, he.fields, ⟨h₁.objs.size, _, _, _, rfl, hd₃, by simp [hz], rfl, ?_⟩, (S3.sub (List.Sublist.cons_cons _ (List.Sublist.cons_cons _ (List.nil_sublist _)))).perm (List.Perm.swap ..)⟩
  first | (simp; done) | (rcases hpl with rfl | ⟨_, _, _, _, _, _, _, rfl⟩ <;> simp)
theorem thr_note {A₀ : Around} {e : Value} {Q : Unit → Shared → Prop} (a : Act w A₀ env G outer) (hfr : A.frames = some (env :: outer)) (T : Thr G vs word (FlA G.L) e s)
    (h : ∀ s', Thr G vs word (FlAt (rawInt G.L)) e s' → Q () s') : wpAny (model P w) A (noteFrame e env) Q E s := by
  obtain ⟨x, o, Z, tl, rfl, he, hf, S⟩ := T
  have hx := (S.mu _ (.head _)).1
  unfold noteFrame
  simp only [a.frm]
  cases hf with
  | fresh hd h1 =>
    refine wpAny_bind (wpAny_field hx hd h1 ?_)
    rw [if_neg (by decide)]
    exact entry_made a hfr S he hd (Array.getElem?_eq_some_iff.mp h1).1 h
  | @noted oT T fs ts hd h1 hdT h3 =>
    have hT := (S.mu _ (.tail _ (.head _))).1
    refine wpAny_bind (wpAny_field hx hd h1 ?_)
    rw [if_pos (show (Value.ref T != Value.none) = true from by simp)]
    rcases h3 with h3 | h3
    · refine wpAny_bind (wpAny_field hT hdT h3 ?_)
      rw [if_neg (show ¬ ((Value.none == rawInt G.L) = true) from by simp [rawInt])]
      refine wpAny_bind (wpAny_setField hT hdT (Array.getElem?_eq_some_iff.mp h3).1 ?_)
      have S1 := S.chg (tk := s.toks) (.there .here) (Heap.SameBut.update _ T (Obj.mapFields (·.setIfInBounds 3 Value.none))) (Heap.get?_update_self _ hT (Obj.isFreed_of_fields (Obj.data_mapFields hdT _)))
      exact entry_made a hfr S1 he hd (Array.getElem?_eq_some_iff.mp h1).1 h
    · refine wpAny_bind (wpAny_field hT hdT h3 ?_)
      rw [if_pos (show (rawInt G.L == rawInt G.L) = true from by simp)]
      exact wpAny_pure (h _ ⟨x, o, Z, _, rfl, he, ⟨T, oT, fs, ts, rfl, hd, h1, hdT, h3⟩, S⟩)
theorem thr_flight {e f : Value} {fr : Option Addr} {Q : Unit → Shared → Prop} (T : Thr G vs word (FlAt f) e s)
    (h : ∀ s', Thr G vs word (FlAt (fr.elim .none fun f => rawInt f)) e s' → Q () s') : wpAny (model P w) A (setFlight e fr) Q E s := by
  obtain ⟨x, o, Z, tl, rfl, he, ⟨T, oT, fs, ts, rfl, hd, h1, hdT, h3⟩, S⟩ := T
  have hx := (S.mu _ (.head _)).1
  have hT := (S.mu _ (.tail _ (.head _))).1
  have hz : 3 < ts.size := (Array.getElem?_eq_some_iff.mp h3).1
  unfold setFlight
  refine wpAny_bind (wpAny_field hx hd h1 ?_)
  rw [if_pos (show (Value.ref T != Value.none) = true from by simp)]
  refine wpAny_setField hT hdT hz (h _ ?_)
  have S1 := S.chg (tk := s.toks) (.there .here) (Heap.SameBut.update _ T (Obj.mapFields (·.setIfInBounds 3 (fr.elim .none fun f => rawInt f)))) (Heap.get?_update_self _ hT (Obj.isFreed_of_fields (Obj.data_mapFields hdT _)))
  exact ⟨x, o, Z, _, rfl, he, ⟨T, _, fs, _, rfl, hd, h1, Obj.data_mapFields hdT _, by simp [hz]⟩, S1⟩
theorem thr_leaving {A₀ : Around} {e : Value} {Q : Unit → Shared → Prop} (a : Act w A₀ env G outer) (hfr : A.frames = some (env :: outer)) (T : Thr G vs word (FlA G.L) e s)
    (h : ∀ s', Thr G vs word (FlAt .none) e s' → Q () s') : wpAny (model P w) A (leaving env e) Q E s := by
  unfold leaving
  exact wpAny_bind (thr_note a hfr T fun s' T' => thr_flight T' h)
theorem thr_loop {e : Value} (a : Act w A env G outer) (T : Thr G vs word (FlA G.L) e s) (h : ∀ s', Thr G vs word (FlAt (rawInt G.L)) e s' → E e s') : Elp w A env E e s := by
  refine thr_note a a.frs T fun s' T' => ?_
  show wpAny _ _ (do if (← field e 1) == .none then unsupported "frame.own-activation:exception-without-traceback"
                     setFlight e env.frame) _ _ s'
  have T2 := T'
  obtain ⟨x, o, Z, tl, rfl, he, ⟨T, oT, fs, ts, rfl, hd, h1, hdT, h3⟩, S⟩ := T'
  refine wpAny_bind (wpAny_field (S.mu _ (.head _)).1 hd h1 ?_)
  rw [if_neg (show ¬ ((Value.ref T == Value.none) = true) from by simp)]
  rw [a.frm]
  exact thr_flight T2 h
inductive ErrK (G' : Gh) (Wd : Str → Prop) (e : Value) (s'' : Shared) : Prop
  | mk (word : Str) (vs' : List (Option Value)) : Wd word → Thr G' vs' word (FlA G'.L) e s'' → ErrK G' Wd e s''
theorem call_raise {f : Addr} {ob : Obj} {fd : FuncData} {body : List Stmt} {binds : List (Str × Value)} {pos : List Value} {nm gn : List Str} {R : Result → Shared → Prop} (Wd : Str → Prop)
    (a : Act w A env G outer) (S : St G Z vs (foot ++ rest) s) (hdep : A.depth < recursionLimit)
    (ho : (KK w).lookup f = some ob) (hd : ob.data = .func fd) (hb : fd.body = .stmts body) (hcd : codeIn (KK w) fd.code fd.qualname = true)
    (hbind : bindArgs fd ⟨pos, []⟩ = pure binds) (sc : scopeOk fd binds nm gn = true) {vs₁ : List (Option Value)} (hvs : nm.map (fun x => binds.reverse.lookup x) = vs₁)
    (h : ∀ A' env' G' s', A'.depth = A.depth + 1 → A'.units = A.units + 3 → G' = mkG G.B s foot (G.L :: G.fr) Z nm gn → G'.nm = nm → G'.gn = gn → Act w A' env' G' (env :: outer) → St G' Z vs₁ foot s' →
      wpAny (model P w) A' (execs body env') (Back G G' vs rest fun v s'' => R (.ok (.ret v)) s'') (ErrK G' Wd) s')
    (hE : ∀ word e s'', Wd word → Thr G vs word (FlAt .none) e s'' → R (.error e) s'') :
    codeAny (model P w) A (.call (.ref f) ⟨pos, []⟩) R s := by
  refine call_code (X := fun G' _ => ErrK G' Wd) a S hdep ho hd hb hcd (BindsTo.of_eq hbind) sc hvs h fun A' env' G' e s' a' hfr hG z => ?_
  obtain ⟨word, vs', hw, T⟩ := z
  refine thr_leaving a' hfr T fun s'' T' => ?_
  obtain ⟨x, o, Z', tl, rfl, he, hf, S'⟩ := T'
  exact hE word _ _ hw ⟨x, o, Z', tl, rfl, he, hf, (S.back hG S').sub (List.sublist_append_left _ _)⟩
theorem Act.under (a : Act w A env G outer) (id : String) (args : Args) : Act w (A.under (.builtin id args)) env G outer :=
  { a with frs := (by show pushEnvs [] A.frames = _; exact a.frs), hnd := a.hnd }
theorem Room.under {n m : Nat} {id : String} {args : Args} (h : Room A n) (hm : m < n) (hc : (Code.builtin id args).weight ≤ 8) (hu : (Code.builtin id args).cUnits ≤ 40) : Room (A.under (.builtin id args)) m := by
  exact ⟨Nat.lt_of_le_of_lt (show A.depth + _ + 8 * m ≤ _ from lin2 hc (Nat.mul_le_mul_left 8 hm) (by wtm_at "a")) h.1, Nat.lt_of_le_of_lt (show A.units + _ + 40 * m ≤ _ from lin2 hu (Nat.mul_le_mul_left 40 hm) (by wtm_at "a")) h.2⟩
theorem R_new {C fI : Addr} {args : List Value} {Q : Value → Shared → Prop} (a : Act w A env G outer) (S : St G Z vs mt s) {n : Nat} (hr : Room A (n + 1)) (hm : makesIn (KK w) C = true)
    (hi : findIn (KK w) (.ref C) "__init__" = some (some (.ref fI))) (hf : isFn (KK w) (.ref fI) = true)
    (h : ∀ A' x dx od s', Act w A' env G outer → Room A' n → DO [] od → dx ∉ G.ft → St G (fun b o => Z b o ∨ (b = x ∧ o = instObj C dx)) vs ((dx, od) :: mt) s' →
      codeAny (model P w) A' (.call (.ref fI) ⟨.ref x :: args, []⟩) (fun r s' => match r with | .ok (.ret v) => v = .none ∧ Q (.ref x) s' | .ok _ => False | .error e => E e s') s') :
    wpAny (model P w) A (call (.ref C) args) Q E s := by
  obtain ⟨hh, g, d, t, os⟩ := s
  have X := a.kh S
  refine wpAny_call (make_core (makes_of X hm) (looks_findIn X hi) (fun self => bind_fn X self (beq_iff_eq.mp hf)) (.inl rfl) ?_)
  have S1 := S.push a emptyDict rfl t
  have S2 := S1.push a (instObj C hh.objs.size) rfl t
  rw [show (Heap.push hh emptyDict).objs.size = hh.objs.size + 1 from Heap.size_push ..] at S2
  have fr2 := (a.fresh S1 (b := hh.objs.size + 1) (by rw [← show (Heap.push hh emptyDict).objs.size = hh.objs.size + 1 from Heap.size_push ..]; exact no_size)).2
  refine codeAny_mono (h _ (hh.objs.size + 1) hh.objs.size emptyDict _ (a.under "type.__call__" ⟨.ref C :: args, []⟩) (hr.under (Nat.lt_succ_self n) ?_ ?_) (DO.empty rfl) (a.fresh S no_size).2 (S2.freeze fr2)) fun r s' z => ?_
  · exact Nat.le_of_ble_eq_true (by kernel_rfl)
  · exact Nat.le_of_ble_eq_true (by kernel_rfl)
  · rcases r with e | (v | _ | _ | _) <;> first | exact z | exact z.elim | skip
end
theorem V_attr {w : World} {A : Around} {env : Env} {s : Shared} {E : Value → Shared → Prop} {value : PySem.Expr} {attr : Str} {pos : Pos} {Q : Value → Shared → Prop}
    (he : eval (.Attribute value attr pos) env = (do
      let o ← eval value env
      standAt pos.atName
      let r ← holding [o] (getAttr o attr true)
      letTemporaryGo value o r
      pure r))
    (h : wpAny (model P w) A (eval value env) (fun o s₁ => wpAny (model P w) A (getAttr o attr true) Q E s₁) E s) : wpAny (model P w) A (eval (.Attribute value attr pos) env) Q E s := Attribute_any_ h he
theorem R_neg {w : World} {A : Around} {G : Gh} {Z : Zt} {vs : List (Option Value)} {mt : List (Addr × Obj)} {s : Shared} {E : Value → Shared → Prop} {a : Int} {t : Tok} {Q : Value → Shared → Prop} (S : St G Z vs mt s) (h : ∀ t s', St G Z vs mt s' → Q (.int (-a) t) s') : wpAny (model P w) A (unaryOp .USub (.int a t)) Q E s := PyProof.Rows.neg_int (h _ _ S.tok)
theorem badObj (w : World) : (KK w).lookup 45 = some (excClassObj "BadTable" "BadTable" 45 44 [.ref 32] [.ref 32, .type "Exception", .type "BaseException", .type "object"] true [] [] false none none (some (.ref 36)) none (some (.str "BadTable" 220)) (some (.str "BadTable" 228)) (some (.bool true)) "Exception.__new__") := by (dsimp only [KK]; (show List.lookup _ (Mine.hd.heap_1 _) = _; k_is))
theorem badInit (w : World) : findIn (KK w) (.ref 45) "__init__" = some (some (.ref 29)) := by wtm_at "kis"
theorem badTaker (w : World) : takerIn (KK w) 45 "told" = some none := by wtm_at "kis"
theorem badTold (w : World) : findIn (KK w) (.ref 45) "told" = some none := by wtm_at "kis"
theorem badDict (w : World) : hasDictIn (KK w) 45 = true := by wtm_at "kis"
theorem badSet (w : World) : findIn (KK w) (.ref 45) "__setattr__" = some (some (.builtin "object.__setattr__")) := by wtm_at "kis"
theorem badGet (w : World) : findIn (KK w) (.ref 45) "__getattribute__" = some (some (.builtin "BaseException.__getattribute__")) := by wtm_at "kis"
theorem badHook (w : World) : findIn (KK w) (.ref 45) "__getattr__" = some none := by wtm_at "kis"
theorem badFn (w : World) : typeIn (KK w) (.ref 29) = some (.type "function") := by wtm_at "kis"
theorem badMro (w : World) (b : Value) : mroIn (KK w) 45 b = some ([Value.ref 45, .ref 32, .type "Exception", .type "BaseException", .type "object"].contains b) := by
  unfold mroIn clsIn
  rw [badObj]; rfl
theorem badCls (w : World) : ∃ cd, clsIn (KK w) 45 = some cd ∧ cd.mro = [Value.ref 45, .ref 32, .type "Exception", .type "BaseException", .type "object"] ∧ cd.hasDict = true := ⟨_, by unfold clsIn; rw [badObj], rfl, rfl⟩
noncomputable abbrev bmE : List Value := [.ref 32, .type "Exception", .type "BaseException", .type "object"]
section
variable {w : World} {A : Around} {env : Env} {G : Gh} {outer : List Env} {Z : Zt} {vs : List (Option Value)} {mt : List (Addr × Obj)} {s : Shared} {E : Value → Shared → Prop}
theorem set_exc {e : Addr} {oe : Obj} {fs : Array Value} {v : Value} {Q : Unit → Shared → Prop} (a : Act w A env G outer) (S : St G Z vs ((e, oe) :: mt) s) (hc : oe.cls = .ref 45) (hd : oe.dict = none) (hf : oe.data = .fields fs)
    (h : ∀ dx od s', DO [("told", v)] od → St G (fun b o => Z b o ∨ (b = dx ∧ o = od)) vs ((e, { oe with dict := some dx }) :: mt) s' → Q () s') : wpAny (model P w) A (setAttr (.ref e) "told" v) Q E s := by
  obtain ⟨hh, g, dr, tk, os⟩ := s
  have X := a.kh S
  have hx := (S.mu _ (.head _)).1
  dsimp only at hx X
  have I : InstAt hh e oe 45 none := ⟨hx, hc, by unfold notCls; rw [hf], by rw [hd]; trivial⟩
  have SF := PySem.F.store_object
  refine set_plain (s := ⟨hh, g, dr, tk, os⟩) X I (badSet w) ?_
  have sub : Looks (model P w) hh (isInstance (.ref e) (.type "object")) true := I.type.andThen (looks_mroIn X (badMro w _))
  refine codeAny_call_builtin SF.slot.plain SF.entry (@check_slot (model P w) _ _ ⟨hh, g, dr, tk + 1, os⟩ "object.__setattr__" "object" "__setattr__" (.ref e) [.str "told" tk, v] [] _ SF.kind SF.split sub (SF.args (.ref e) (.str "told" tk) v) ?_)
  obtain ⟨attr, ha, hr⟩ := Option.bind_eq_some_iff.mp (badTaker w)
  have ha' := ha
  rw [badTold] at ha'
  obtain rfl := Option.some.inj ha'
  obtain ⟨cd, hcd, hmr, hd'⟩ := badCls w
  have hm : Looks (model P w) hh (mroOf (.ref 45)) cd.mro := (looks_clsIn X hcd).andThen .now
  have L3 : Looks (model P w) hh (Builtin.ObjectAttr.storeTaker? none) none := .now
  rw [osa_eq, refuse_eq]
  refine wpAny_bind (wpAny_bind (I.type.at (wpAny_bind (hm.at ?_))))
  rw [hmr, refuseLoop_ref, refuseLoop_ref, PySem.F.store_Exception.passes]
  refine wpAny_pure (wpAny_bind (I.type.at (wpAny_bind ((looks_findIn X ha).at (wpAny_bind (L3.at ?_))))))
  show wpAny _ _ (Builtin.ObjectAttr.storeInOwnDict (.ref e) (.ref 45) (.str "told" tk) "told" v false) _ _ _
  obtain ⟨oc, odi, oda, osl⟩ := oe
  dsimp only at hc hd hf
  subst hc hd hf
  refine wpAny_bind (wpAny_pure (wpAny_bind (wpAny_bind (wpAny_loadPart hx (wpAny_bind ((looks_clsIn X hcd).at ?_))))))
  rw [hd']
  refine wpAny_bind (wpAny_alloc (wpAny_bind (wpAny_update (Heap.get?_push_of_some _ hx) (wpAny_pure ?_))))
  have S1 := S.push a emptyDict rfl (tk + 1)
  have S2 := (S1.perm (List.Perm.swap ..)).chg (tk := tk + 1) .here (Heap.SameBut.update _ e fun o => { o with dict := some hh.objs.size }) (Heap.get?_update_self _ (Heap.get?_push_of_some _ hx) rfl)
  have S3 := S2.perm (List.Perm.swap ..)
  refine wpAny_bind (wpAny_pure (wpAny_bind ?_))
  unfold nsSet
  have hdx := (S3.mu _ (.head _)).1
  dsimp only at hdx
  refine wpAny_bind (wpAny_bind (wpAny_askSetting (wpAny_pure (wpAny_bind (wpAny_mkText (wpAny_bind (wpAny_loadPart hdx ?_)))))))
  have D' := (DO.empty (o := emptyDict) rfl).put "told" (PyData.keyHash w.params "told") (tk + 1) v
  dsimp only
  rw [aRefKeyMayBeTheName_eq, aRefKeyMayBeTheNameByArray]
  rw [show (Array.any (#[] : Array DictEntry) fun x => x.refKey) = false from by simp, Bool.and_false]
  refine wpAny_updatePart hdx ?_
  have hnew := Heap.get?_update_self (Obj.putName "told" (PyData.keyHash w.params "told") (.str "told" (tk + 1)) v) hdx D'.free
  refine wpAny_bind (wpAny_lookBehind hnew ?_ ?_)
  · obtain ⟨es', ep', q, _, _, z⟩ := D'
    rw [q]
    refine pastItsLine_dict ?_
    rw [z, sto_len, sizeLine_eq]
    split <;> simp
  · have S4 := S3.chg (tk := tk + 1 + 1) .here (.update ..) hnew
    exact wpAny_pure (h _ _ _ D' (S4.freeze (a.fresh S no_size).2))
theorem fn_excInit {e : Addr} {oe : Obj} {fs : Array Value} {v : Value} {R : Result → Shared → Prop} (a : Act w A env G outer) (S : St G Z vs ((e, oe) :: mt) s) (hr : Room A 1) (hc : oe.cls = .ref 45) (hd : oe.dict = none) (hf : oe.data = .fields fs)
    (h : ∀ Z' dx od s', DO [("told", v)] od → Z' dx od → St G Z' vs ((e, { oe with dict := some dx }) :: mt) s' → R (.ok (.ret .none)) s') : codeAny (model P w) A (.call (.ref 29) ⟨[.ref e, v], []⟩) R s := by
  refine' call_code (f := 29) (foot := [(e, oe)]) (rest := mt) (nm := ["self", "told"]) (gn := []) (binds := [("self", .ref e), ("told", v)]) (vs₁ := [some (.ref e), some v]) (X := fun _ _ _ _ => False) a S ?hd ?ho ?k1 ?k2 ?k3 ?k4 ?k5 ?k6 ?h (fun _ _ _ _ _ _ _ _ h => h.elim)
  case ho => (show List.lookup _ (Mine.hd.heap_1 _) = _; k_is)
  case k1 => exact rfl
  case k2 => exact rfl
  case k3 => kernel_rfl
  case k4 => exact binds_K (a.kh S) rfl (by (show List.lookup _ (Mine.hd.heap_1 _) = _; k_is)) rfl rfl rfl
  case k5 => kernel_rfl
  case k6 => kernel_rfl
  case hd => exact hr.dep
  case h =>
    intro A' env' G' s' dA uA _ hnm hgn a' S'
    wtm_at "x"
    repeat wtm_at "v"
    refine set_exc a' S' hc hd hf fun dx od s1 hD S1 => ?_
    refine X_nil (Back.mk S1 (fun S => h _ dx od _ hD (.inr ⟨rfl, rfl⟩) S))
theorem badAt {h : Heap} (X : (KK w).In h) : h.get? 45 = some (excClassObj "BadTable" "BadTable" 45 44 [.ref 32] bmE true [] [] false none none (some (.ref 36)) none (some (.str "BadTable" 220)) (some (.str "BadTable" 228)) (some (.bool true)) "Exception.__new__") := X _ _ (badObj w)
theorem has_B {X : Value} {r : Bool} (h : [Value.type "Exception", .type "BaseException", .type "object"].contains X = r) (h1 : X ≠ .ref 45) (h2 : X ≠ .ref 32) : (Value.ref 45 :: bmE).contains X = r := by
  rw [List.contains_cons, List.contains_cons, h, beq_eq_false_iff_ne.mpr h1, beq_eq_false_iff_ne.mpr h2]; rfl
theorem exc_checkNew {M : Model} {h : Heap} {g : Array GenState} {d : Drawn} {t : Nat} {os : OsState} {args : List Value} {Q : Unit → Shared → Prop} (X : (KK w).In h) (hq : Q () ⟨h, g, d, t, os⟩) :
    wpAny M A (checkBuiltinCall "Exception.__new__" ⟨.ref 45 :: args, []⟩) Q E ⟨h, g, d, t, os⟩ := by
  have Fn := PySem.F.excBase_Exception
  have hC := badAt X
  have hcont : (Value.ref 45 :: bmE).contains (.type "Exception") = true := has_B (by decide) (by decide) (by decide)
  have hstar := Fn.noStar
  simp only [checkBuiltinCall, Fn.newKind, Fn.newSplit, Fn.newRow]
  repeat (first | refine wpAny_loadPart_at hC ?_ | (refine wpAny_isSubtype_exc hC ?_; rw [hcont]) | refine wpAny_staticBase_exc hC ?_ | refine wpAny_madeBy_exc hC ?_ | simp only [bne_self_eq_false, Bool.false_eq_true, if_false] | wp_step)
  exact hq
theorem exc_new {h : Heap} {g : Array GenState} {d : Drawn} {t : Nat} {os : OsState} {args : List Value} {R : Result → Shared → Prop} (X : (KK w).In h)
    (hq : R (.ok (.ret (.ref (h.objs.size + 1)))) ⟨(h.push { cls := .type "tuple", data := .seq args.toArray }).push { cls := .ref 45, data := .fields #[.ref h.objs.size, .none, .none, .none, .bool false, .none] }, g, d, t, os⟩) (hargs : args.length ≤ sizeLine) :
    codeAny (model P w) A (.builtin "Exception.__new__" ⟨.ref 45 :: args, []⟩) R ⟨h, g, d, t, os⟩ := by
  have Fn := PySem.F.excBase_Exception
  have hC := badAt X
  have hends := Fn.ends
  have hcB : (Value.ref 45 :: bmE).contains (.type "Exception") = true := has_B (by decide) (by decide) (by decide)
  have hcA : (Value.ref 45 :: bmE).contains (.type "AttributeError") = false := has_B (by decide) (by decide) (by decide)
  have hcN : (Value.ref 45 :: bmE).contains (.type "NameError") = false := has_B (by decide) (by decide) (by decide)
  refine codeAny_builtinAt Fn.entry ?_
  unfold Builtin.«BaseException.__new__»
  refine PySem.wpAt_bind ?_
  show PySem.wpAt _ _ _ (stack >>= _) _ _ _
  refine PySem.wpAt_bind (PySem.wpAt_stack fun p below => PySem.wpAt_of_wpAny ?_)
  wp_walk
  refine PySem.wpAt_of_wpAny ?_
  rw [Fn.owner]
  repeat (first | with_reducible refine wpAny_madeHere_exc Fn.canon hC ?_ | with_reducible refine wpAny_loadPart_at hC ?_ | (with_reducible refine wpAny_isSubtype_exc hC ?_; first | rw [hcB] | rw [hcA] | rw [hcN]) | wp_step)
  show R _ _
  rw [Heap.size_push]
  exact hq
theorem new_exc {x : Str} {tx : Tok} {Q : Value → Shared → Prop} (a : Act w A env G outer) (S : St G Z vs mt s) (hr : Room A 2)
    (h : ∀ Z' e o s', ExO Z' x o → FlA G.L o [] → St G Z' vs ((e, o) :: mt) s' → Q (.ref e) s') : wpAny (model P w) A (call (.ref 45) [.str x tx]) Q E s := by
  obtain ⟨hh, g, d, t, os⟩ := s
  have X := a.kh S
  have hC := badAt X
  have f1 := tc_lookup
  have f2 := tc_bind (.ref 45)
  have hT : (⟨hh, g, d, t, os⟩ : Shared).TypeIs (.ref 45) "type" := ⟨_, hC, rfl⟩
  refine wpAny_call (codeAny_of_tree ?_)
  show wpAny _ _ (callAny (.ref 45) _) _ _ _
  repeat (any_goals (first | assumption | with_reducible refine wpAny_loadPart_at hC ?_ | wp_step))
  refine ⟨rfl, ?_⟩
  show codeAny (model P w) A (.call (.builtin "type.__call__") ⟨[.ref 45, .str x tx], []⟩) _ _
  refine codeAny_call_builtin_at (Code.quiet_builtin _ (by wtm_at "d")) entry_typeCall (wpAny_check_type_call_sub hC ?_)
  have a1 := a.under "type.__call__" ⟨[.ref 45, .str x tx], []⟩
  have hr1 : Room (A.under (.builtin "type.__call__" ⟨[.ref 45, .str x tx], []⟩)) 1 := hr.under (by wtm_at "a") (Nat.le_of_ble_eq_true (by kernel_rfl)) (Nat.le_of_ble_eq_true (by kernel_rfl))
  revert a1 hr1
  generalize A.under (.builtin "type.__call__" ⟨[.ref 45, .str x tx], []⟩) = A1
  intro a1 hr1
  repeat (first | with_reducible refine wpAny_loadPart_at hC ?_ | with_reducible refine wpAny_madeBy_exc hC ?_ | wp_step)
  refine codeAny_call_builtin_code (Code.quiet_builtin _ PySem.F.excBase_Exception.quiet) (exc_checkNew X ?_)
  refine exc_new X ?_ (nb rfl)
  show wpAny _ _ _ _ _ _
  have S1 := S.push a { cls := .type "tuple", data := .seq [Value.str x tx].toArray } rfl t
  have S2 := S1.push a { cls := .ref 45, data := .fields #[.ref hh.objs.size, .none, .none, .none, .bool false, .none] } rfl t
  rw [show (Heap.push hh { cls := .type "tuple", data := .seq [Value.str x tx].toArray }).objs.size = hh.objs.size + 1 from Heap.size_push ..] at S2
  have X₁ := a.kh S2
  have hC₁ := badAt X₁
  have hget := (S2.mu _ (.head _)).1
  dsimp only at hget X₁ hC₁
  have hcC : (Value.ref 45 :: bmE).contains (.ref 45) = true := by decide
  unfold isInstance
  repeat (first | with_reducible refine wpAny_loadPart_at hget ?_ | (with_reducible refine wpAny_isSubtype_exc hC₁ ?_; rw [hcC]) | wp_step)
  show wpAny _ _ (typeLookup (.ref 45) _) _ _ _
  refine (looks_findIn X₁ (badInit w)).at ?_
  refine wpAny_holding (wpAny_bind ((bind_fn X₁ _ (badFn w)).at (wpAny_bind (wpAny_call ?_))))
  refine fn_excInit a1 (S2.sub (.cons_cons _ (List.Sublist.cons _ (List.Sublist.refl _)))) hr1 rfl rfl rfl fun Z' dx od s' hD hz S' => ?_
  exact wpAny_pure (wpAny_pure (h Z' _ _ _ ⟨dx, od, tx, rfl, rfl, hz, hD⟩ (.fresh rfl rfl) S'))
end
section
variable {w : World} {A : Around} {env : Env} {G : Gh} {outer : List Env} {Z : Zt} {vs : List (Option Value)} {mt : List (Addr × Obj)} {s : Shared} {E : Value → Shared → Prop} {word : Str}
theorem raise_made {x : Sem Value} {Q : Flow → Shared → Prop} (a : Act w A env G outer)
    (h : wpAny (model P w) A x (fun v s₁ => Thr G vs word (fun o tl => tl = [] ∧ FlA G.L o []) v s₁ ∧ E v s₁) E s) : wpAny (model P w) A (raiseStmt env (some x) none) Q E s := by
  have hcB : (Value.ref 45 :: bmE).contains (.type "BaseException") = true := has_B (by decide) (by decide) (by decide)
  unfold raiseStmt
  refine wpAny_bind (wpAny_mono h (fun v s₁ h₁ => ?_) fun _ _ x => x)
  obtain ⟨⟨e, o, Z', tl, rfl, he, ⟨rfl, hf⟩, S⟩, hE⟩ := h₁
  obtain ⟨hp, g, d, tk, os⟩ := s₁
  have hC := badAt (a.kh S)
  have hx := (S.mu _ (.head _)).1
  dsimp only at hx hC
  obtain ⟨dx, od, tw, hcl, hdd, hz, hD⟩ := he
  cases hf with
  | @fresh fs hd h1 =>
  obtain ⟨oc, odi, oda, osl⟩ := o
  dsimp only at hcl hdd hd
  subst hcl hdd hd
  repeat (first | with_reducible refine wpAny_loadPart_at hx ?_ | with_reducible refine wpAny_loadPart_at hC ?_ | (with_reducible refine wpAny_isSubtype_exc hC ?_; rw [hcB]) | (with_reducible refine wpAny_field hx rfl h1 ?_) | wp_step)
  all_goals exact wpAny_raiseNew_none a.hnd hE
theorem X_raise {np cpos pos p : Pos} {k : Nat} {x : Str} {rest : List Stmt} {Q : Flow → Shared → Prop} (a : Act w A env G outer) (S : St G Z vs mt s) (hr : Room A 2) {gn : List Str} (hgn : G.gn = gn) (hc : gn.contains "BadTable" = true)
    (h : ∀ e s', Thr G vs x (FlA G.L) e s' → E e s') : wpAny (model P w) A (execs (.Raise (some (.Call (.Name "BadTable" np) [.Constant (.str x) k p] [] cpos)) none pos :: rest) env) Q E s := by
  refine X_cons ?_
  rw [arm_exec_Raise]
  simp only [evalOpt, Option.map]
  refine wpAny_bind (wpAny_standAt (raise_made (vs := vs) (word := x) a (wpAny_bind (wpAny_mono ?_ (fun v s₃ h₃ => wpAny_bind (wpAny_standAt (wpAny_pure h₃))) fun _ _ x => x))))
  refine X_Name (R_glob a S hgn hc (v := .ref 45) (by wtm_at "kis") ?_)
  refine V_fn a S (by kernel_rfl) rfl rfl ?_
  repeat wtm_at "v"
  rename_i t1 s1 S1
  refine (KDef.mk S1 (new_exc a S1 hr fun Z' e o s2 he hf S2 => ?_))
  have T : Thr G vs x (fun o tl => tl = [] ∧ FlA G.L o []) (.ref e) s2 := ⟨e, o, Z', [], rfl, he, ⟨rfl, hf⟩, S2.sub (List.Sublist.cons_cons _ (List.nil_sublist _))⟩
  exact ⟨T, h _ _ (T.imp fun o tl ⟨q, f⟩ => q ▸ f)⟩
end
inductive Rem : List Str → List (Option Value) → Str → Option Value → List (Option Value) → Prop
  | here {x : Str} {v : Option Value} {u : Option Value} {ns : List Str} {vs : List (Option Value)} : Rem (x :: ns) (u :: vs) x v (v :: vs)
  | there {x n : Str} {v : Option Value} {u : Option Value} {ns : List Str} {vs vs' : List (Option Value)} : Rem ns vs x v vs' → Rem (n :: ns) (u :: vs) x v (u :: vs')
theorem Rem.get {x : Str} {v : Option Value} {ns : List Str} {vs vs' : List (Option Value)} (h : Rem ns vs x v vs') : ∃ i : Nat, ns[i]? = some x ∧ vs' = vs.set i v := by
  induction h with
  | here => exact ⟨0, rfl, rfl⟩
  | there _ ih => obtain ⟨i, a, b⟩ := ih; exact ⟨i + 1, a, congrArg (List.cons _) b⟩
section
variable {w : World} {A : Around} {env : Env} {G : Gh} {outer : List Env} {Z : Zt} {vs : List (Option Value)} {mt : List (Addr × Obj)} {s : Shared} {E : Value → Shared → Prop} {word : Str}
theorem H_loc {A' : Around} {x : Str} {pos : Pos} {v : Value} {Q : Value → Shared → Prop} (a : Act w A env G outer) (S : St G Z vs mt s) {nm : List Str} (hnm : G.nm = nm) (hat : At nm vs x v) (h : Q v s) :
    wpAny (model P w) A' (eval (.Name x pos) env) Q E s := by
  subst hnm
  obtain ⟨i, hx, hv⟩ := hat.get
  have hm := List.mem_of_getElem? hx
  exact wpAny_Name (wpAny_loadName_local a.knd (a.kloc x hm) (a.loc.symm ▸ S.ns) (look_get a.nd hx hv) h) (beq_eq_false_iff_ne.mpr fun e => a.dbg.1 (e ▸ hm))
theorem H_st {A' : Around} {x : Str} {v : Value} {Q : Unit → Shared → Prop} (a : Act w A env G outer) (S : St G Z vs mt s) {nm : List Str} {vs' : List (Option Value)} (hnm : G.nm = nm) (hput : Put nm vs x v vs') (h : ∀ s', St G Z vs' mt s' → Q () s') :
    wpAny (model P w) A' (storeName env x v) Q E s := by
  subst hnm
  obtain ⟨i, hx, rfl⟩ := hput.get
  have hm := List.mem_of_getElem? hx
  refine wpAny_storeName_local (a.kloc x hm) (a.loc.symm ▸ S.ns) (fun h' hn hs => h _ (S.lift (a.loc ▸ hs) ?_ (by rw [List.length_set]; exact S.len) (.inl a.loc) (fun p hp => ?_) rfl)) ?_
  · rw [look_set a.nd S.len hx] at hn
    exact a.loc ▸ hn
  · exact (hs.2 _ (a.loc ▸ (S.mu p hp).2.1)).trans (S.mu p hp).1
  · rw [a.knd]; rfl
theorem H_glob {A' : Around} {x : Str} {pos : Pos} {v : Value} {Q : Value → Shared → Prop} (a : Act w A env G outer) (S : St G Z vs mt s) {gn : List Str} (hgn : G.gn = gn) (hc : gn.contains x = true) (e : nsIn (KK w) mainGlobals x = some (some v)) (h : Q v s) :
    wpAny (model P w) A' (eval (.Name x pos) env) Q E s := by
  subst hgn
  have hx := List.contains_iff_mem.mp hc
  obtain ⟨mean, mg, mb, T⟩ := a.top
  exact Calls.Name_function_global a.knd (a.kglb x hx) (Calls.loadGlobal_global (a.glo ▸ T.g.keeps (a.stays S)) (mg_of a.kin T.g e) h) (beq_eq_false_iff_ne.mpr fun e => a.dbg.2 (e ▸ hx))
theorem H_gone {x : Str} {pos : Pos} {vs' : Option Value → List (Option Value)} {Q : Unit → Shared → Prop} (a : Act w A env G outer) (S : St G Z vs mt s) {nm : List Str} (hnm : G.nm = nm) (hr : ∀ v, Rem nm vs x v (vs' v)) (h : ∀ v s', St G Z (vs' v) mt s' → Q () s') :
    wpAny (model P w) A (do bindName env x .none; unbindBehindTheSuite env x pos) Q E s := by
  subst hnm
  obtain ⟨i, hx, _⟩ := (hr none).get
  have hm := List.mem_of_getElem? hx
  refine wpAny_nameGoes_keeps (a.kloc x hm) (a.loc.symm ▸ S.ns) (by rw [a.knd]; rfl) fun h' v hn hs => h v _ ?_
  obtain ⟨j, hj, e⟩ := (hr v).get
  rw [e]
  refine S.lift (a.loc ▸ hs) ?_ (by rw [List.length_set]; exact S.len) (.inl a.loc) (fun p hp => ?_) rfl
  · rw [look_set a.nd S.len hj] at hn
    exact a.loc ▸ hn
  · exact (hs.2 _ (a.loc ▸ (S.mu p hp).2.1)).trans (S.mu p hp).1
theorem get_told {A' : Around} {e : Addr} {o : Obj} {expr : Bool} {Q : Value → Shared → Prop} (a : Act w A env G outer) (S : St G Z vs ((e, o) :: mt) s) (he : ExO Z word o) (hf : ∃ fs, o.data = .fields fs)
    (h : ∀ t s', St G Z vs ((e, o) :: mt) s' → Q (.str word t) s') : wpAny (model P w) A' (getAttr (.ref e) "told" expr) Q E s := by
  obtain ⟨hh, g, dr, tk, os⟩ := s
  have X := a.kh S
  have hx := (S.mu _ (.head _)).1
  dsimp only at hx X
  obtain ⟨dx, od, tw, hcl, hdd, hz, hD⟩ := he
  obtain ⟨fs, hf⟩ := hf
  have hdx := S.z _ _ hz
  dsimp only at hdx
  have I : InstAt hh e o 45 (some od) := ⟨hx, hcl, by unfold notCls; rw [hf], by rw [hdd]; exact hdx⟩
  have L0 := I.type (M := model P w)
  have L1 := looks_findIn (M := model P w) X (badGet w)
  have L2 := looks_findIn (M := model P w) X (badHook w)
  have hL := hD.look "told"
  have L3 := looks_find (M := model P w) X I (findObj_own (badDict w) (badTold w) rfl hL)
  unfold getAttr getAttrBy
  refine wpAny_bind (wpAny_mkText (wpAny_holding (wpAny_bind (L0.at (wpAny_bind (L1.at ?_))))))
  dsimp only
  rw [if_neg (by wtm_at "d")]
  unfold getAttrByItsOwn hookBefore
  rw [if_pos (show onTheHeap (Value.ref 45) = true from rfl)]
  refine wpAny_bind (L2.at (wpAny_bind (wpAny_attempt (wpAny_holding ?_))))
  unfold callGetattribute
  rw [if_neg (show ¬ (expr && onTheHeap (Value.builtin "BaseException.__getattribute__")) = true from by cases expr <;> decide)]
  unfold boundAndCalled
  rw [PySem.F.attr_Exception.ga.bind]
  refine wpAny_bind (wpAny_pure (wpAny_call ?_))
  refine codeAny_call_builtin PySem.F.attr_Exception.ga.plain PySem.F.entry_bexc_ga (@check_slot (model P w) _ _ ⟨hh, g, dr, tk + 1, os⟩ "BaseException.__getattribute__" "BaseException" "__getattribute__" (.ref e) [.str "told" tk] [] _ (by wtm_at "d") (by wtm_at "d")
    (L0.andThen (looks_mroIn X (badMro w _))) (PySem.F.args_bexc_ga (.ref e) (.str "told" tk)) ?_)
  unfold Builtin.«object.__getattribute__»
  refine wpAny_bind (wpAny_pure (wpAny_bind (wpAny_pure (wpAny_bind (L0.at (wpAny_bind (L3.at ?_)))))))
  refine wpAny_pure ?_
  exact wpAny_pure (h tw _ S.tok)
theorem X_try {y n : Str} {np np2 yp ap apos hpos pos : Pos} {body rest : List Stmt} {Q : Flow → Shared → Prop} (a : Act w A env G outer) {nm gn : List Str} (hnm : G.nm = nm) (hgn : G.gn = gn) (hc : gn.contains "BadTable" = true)
    (hs : swapsWith (.Attribute (.Name n np2) "told" ap) (some (.Name y yp)) apos.line env = pure false)
    (h : wpAny (model P w) A (execs body env) (fun f s₁ => f = .next ∧ wpAny (model P w) A (execs rest env) Q E s₁) (fun e s₁ => ∃ (vs1 : List (Option Value)) (word : Str) (vs2 : Addr → List (Option Value)) (vs3 : Addr → Tok → List (Option Value)) (vs4 : Addr → Tok → Option Value → List (Option Value)), Thr G vs1 word (FlA G.L) e s₁ ∧ (∀ x, Put nm vs1 n (.ref x) (vs2 x)) ∧ (∀ x, At nm (vs2 x) n (.ref x)) ∧
      (∀ x t, Put nm (vs2 x) y (.str word t) (vs3 x t)) ∧ (∀ x t v, Rem nm (vs3 x t) n v (vs4 x t v)) ∧ (∀ Z' x t v s', St G Z' (vs4 x t v) [] s' → wpAny (model P w) A (execs rest env) Q E s')) s) :
    wpAny (model P w) A (execs (.Try body [.ExceptHandler (some (.Name "BadTable" np)) (some n) [.Assign [.Name y yp] (.Attribute (.Name n np2) "told" ap) apos] hpos] [] [] pos :: rest) env) Q E s := by
  refine X_cons (wpAny_Try_except (wpAny_mono h (fun f s₁ h₁ => ?_) fun e s₁ h₁ => ?_))
  · obtain ⟨rfl, h₁⟩ := h₁
    exact wpAny_execs_nil h₁
  · obtain ⟨vs1, word, vs2, vs3, vs4, T, p1, p2, p3, p4, fin⟩ := h₁
    refine thr_note a a.frs T fun s2 T2 => ?_
    refine thr_flight T2 fun s3 T3 => ?_
    obtain ⟨x, o, Z', tl, rfl, he, hf, S3⟩ := T3
    refine wpAny_handleBy_cons (codeAny_handlers_test (H_glob a S3 hgn hc (v := .ref 45) (by wtm_at "kis") ?_)) (by intro q; cases q)
    obtain ⟨hp, g, d, tk, os⟩ := s3
    have hC := badAt (a.kh S3)
    have hx := (S3.mu _ (.head _)).1
    have hcl := he
    obtain ⟨_, _, _, hcl, _⟩ := hcl
    refine wpAny_excMatches_sub_self hC hx hcl (by decide) ?_
    refine codeAny_handlers_suite_as ?_
    refine thr_flight (G := G) (vs := vs1) (word := word) ⟨x, o, Z', tl, rfl, he, hf, S3⟩ fun s4 T4 => ?_
    obtain ⟨x', o4, Z4, tl4, e4, he4, hf4, S4⟩ := T4
    cases e4
    refine H_st a S4 hnm (p1 x) fun s5 S5 => ?_
    refine wpAny_execs_cons ?_
    refine wpAny_Assign_Name ?_ hs
    refine Attribute_name (H_loc a S5 hnm (p2 x) ?_)
    refine get_told a S5 he4 (by obtain ⟨_, _, fs, _, _, q, _⟩ := hf4; exact ⟨fs, q⟩) fun t s6 S6 => ?_
    refine H_st a S6 hnm (p3 x t) fun s7 S7 => ?_
    refine wpAny_execs_nil ?_
    exact H_gone a S7 hnm (p4 x t) fun v s8 S8 => fin Z4 x t v s8 S8.nil
end
section
variable {prog : Program} {w : World}
noncomputable abbrev tk2 (prog : Program) (w : World) := tupleKind (intKind prog w)
inductive ItemsR (prog : Program) (w : World) (h : Heap) : List (List Int) → List Value → Prop
  | nil : ItemsR prog w h [] []
  | cons {k : List Int} {a : Addr} {ks : List (List Int)} {vs : List Value} : IsTupleKey (intKind prog w) h k a → ItemsR prog w h ks vs → ItemsR prog w h (k :: ks) (.ref a :: vs)
inductive IsRow (prog : Program) (w : World) (h : Heap) (ks : List (List Int)) (a : Addr) : Prop
  | mk (items : List Value) (n : Nat) : h.get? a = some (To items n) → ItemsR prog w h ks items → IsRow prog w h ks a
theorem ItemsR.inj {h : Heap} {x y : List (List Int)} {vs : List Value} (hx : ItemsR prog w h x vs) (hy : ItemsR prog w h y vs) : x = y := by
  induction hx generalizing y with
  | nil => cases hy; rfl
  | cons a _ ih => cases hy with | cons c d => rw [a.inj c, ih d]
theorem ItemsR.keeps {h h' : Heap} {d : Addr} {o : Obj} {es : Array DictEntry} {ep : Nat} (ho : h.get? d = some o) (hd : o.data = .dict es ep) (hs : Heap.SameBut d h h') {x : List (List Int)} {vs : List Value} (hx : ItemsR prog w h x vs) : ItemsR prog w h' x vs := by
  induction hx with
  | nil => exact .nil
  | cons a _ ih => exact .cons (a.keeps ho hd hs) ih
noncomputable def rowHash (prog : Program) (w : World) (ks : List (List Int)) : Int := reduceHash (Builtin.Tuple.tupleHashOf (ks.map (tupleKeyHash (intKind prog w))))
noncomputable def rowDraws : List (List Int) → Nat
  | [] => 0
  | k :: ks => (k.length + 1) + rowDraws ks
variable {A : Around} {E : Value → Shared → Prop} {s : Shared}
theorem row_hash_loop {ks : List (List Int)} {vs : List Value} {A : Around} {s : Shared} {b : Array Int} {Q : Array Int → Shared → Prop} (hu : A.units < cLine) (hx : ItemsR prog w s.heap ks vs)
    (h : Q (b ++ (ks.map (tupleKeyHash (intKind prog w))).toArray) { s with toks := s.toks + rowDraws ks }) :
    wpAny (model prog w) A (forIn vs b fun x r => do let h ← pyHash x; pure PUnit.unit; pure (ForInStep.yield (r.push h))) Q E s := by
  induction ks generalizing vs s b with
  | nil =>
    cases hx
    rw [List.forIn_nil]
    rw [List.map_nil, Array.append_empty] at h
    exact wpAny_pure h
  | cons k ks ih =>
    cases hx with | cons x1 x2 =>
    rw [List.forIn_cons]
    refine wpAny_bind (wpAny_bind (wpAny_pyHash_tuple hu x1 (wpAny_bind (wpAny_pure (wpAny_pure ?_)))))
    refine ih (s := { s with toks := s.toks + (k.length + 1) }) x2 ?_
    have e : s.toks + (k.length + 1) + rowDraws ks = s.toks + rowDraws (k :: ks) := Nat.add_assoc ..
    show Q _ { s with toks := s.toks + (k.length + 1) + rowDraws ks }
    rw [e, show b.push (tupleKeyHash (intKind prog w) k) ++ (ks.map (tupleKeyHash (intKind prog w))).toArray = b ++ ((k :: ks).map (tupleKeyHash (intKind prog w))).toArray by simp]
    exact h
theorem row_pyHash {ks : List (List Int)} {a : Addr} {Q : Int → Shared → Prop} (hu : A.units + 1 < cLine) (hk : IsRow prog w s.heap ks a) (h : Q (rowHash prog w ks) { s with toks := s.toks + (rowDraws ks + 1) }) : wpAny (model prog w) A (pyHash (.ref a)) Q E s := by
  obtain ⟨items, n, ho, hi⟩ := hk
  have hT : s.TypeIs (.ref a) "tuple" := ⟨_, ho, rfl⟩
  refine pyHash_slot hT F.slot_tuple_hash F.entry_tuple_hash (F.args_tuple_hash_1 _) (beq_builtin_none _) (.inr (by exact lin1 hu (by wtm_at "a"))) ?_
  show wpAny _ _ (Builtin.Tuple.tupleItemsOf (.ref a) >>= _) _ _ s
  refine wpAny_bind (wpAny_tupleItemsOf ho rfl ?_)
  refine wpAny_bind ?_
  rw [← Array.forIn_toList]
  refine row_hash_loop (A := A.in1) (b := #[]) (by rw [Around.in1_units]; exact lin1 hu (by wtm_at "a")) hi ?_
  show wpAny _ _ (retInt (Builtin.Tuple.tupleHashOf _)) _ _ _
  refine wpAny_bind (wpAny_mkInt (wpAny_pure ⟨_, _, rfl, ?_⟩))
  simpa [rowHash, Nat.add_assoc] using h
inductive EqInv (prog : Program) (w : World) (h : Heap) (x y : List (List Int)) (xs ys : List Value) (rest : List (Value × Value)) : Prop
  | mk (x' y' : List (List Int)) (xs' ys' : List Value) : rest = List.zip xs' ys' → ItemsR prog w h x' xs' → ItemsR prog w h y' ys' → decide (x' = y') = decide (x = y) → (xs'.length == ys'.length) = (xs.length == ys.length) → EqInv prog w h x y xs ys rest
theorem row_eq_tree {x y : List (List Int)} {a b : Addr} {Q : Fin → Shared → Prop} (hu : A.units < cLine) (hx : IsRow prog w s.heap x a) (hy : IsRow prog w s.heap y b) (h : Q (.done (.ret (.bool (decide (x = y))))) s) :
    wpAny (model prog w) A (Builtin.«tuple.__eq__» ⟨[.ref a, .ref b], []⟩) Q E s := by
  obtain ⟨xs, na, hoa, hia⟩ := hx
  obtain ⟨ys, nb, hob, hib⟩ := hy
  have hTb : s.TypeIs (.ref b) "tuple" := ⟨_, hob, rfl⟩
  show wpAny _ _ (isInstance (.ref b) (.type "tuple") >>= _) _ _ s
  refine wpAny_bind (wpAny_isInstance hTb isSubtype_tuple_tuple ?_)
  simp only [Bool.not_true, Bool.false_eq_true, if_false]
  refine wpAny_bind (wpAny_tupleItemsOf hoa rfl ?_)
  refine wpAny_bind (wpAny_tupleItemsOf hob rfl ?_)
  refine wpAny_bind ?_
  refine wpAny_forIn_list _
    (fun rest r s' => r.1 = none ∧ s' = s ∧ EqInv prog w s.heap x y xs ys rest)
    _ ?_ ?_ _ _ ⟨rfl, rfl, ⟨x, y, xs, ys, rfl, hia, hib, rfl, rfl⟩⟩
  · rintro ⟨u, v⟩ rest r s' ⟨hr, rfl, x', y', xs', ys', hz, hx', hy', hdec, hlen⟩
    cases hx' with
    | nil => cases hz
    | @cons k1 u' x'' xs'' h1 hx'' =>
      cases hy' with
      | nil => cases hz
      | @cons k2 v' y'' ys'' h2 hy'' =>
        cases hz
        refine wpAny_bind (wpAny_eqBool_tuple hu h1 h2 ?_)
        by_cases hk : k1 = k2
        · subst hk
          rw [decide_eq_true rfl]
          simp only [Bool.not_true, Bool.false_eq_true, if_false]
          refine wpAny_pure ⟨rfl, rfl, ⟨x'', y'', xs'', ys'', rfl, hx'', hy'', ?_, by simpa using hlen⟩⟩
          rw [← hdec]
          by_cases hxy : x'' = y''
          · rw [decide_eq_true hxy, decide_eq_true (congrArg _ hxy)]
          · rw [decide_eq_false hxy, decide_eq_false fun e => hxy (List.cons.inj e).2]
        · rw [decide_eq_false hk]
          simp only [Bool.not_false, if_true]
          have hf : decide (x = y) = false := by rw [← hdec]; exact decide_eq_false fun e => hk (List.cons.inj e).1
          rw [hf] at h
          exact wpAny_bind (wpAny_pure (wpAny_pure (wpAny_pure h)))
  · rintro ⟨r1, r2⟩ s' ⟨hr, rfl, x', y', xs', ys', hz, hx', hy', hdec, hlen⟩
    simp only at hr
    subst hr
    refine wpAny_pure ?_
    have hfin : (xs.toArray.size == ys.toArray.size) = decide (x = y) := by
      rw [← hdec, List.size_toArray, List.size_toArray, ← hlen]
      cases hx' with
      | nil =>
        cases hy' with
        | nil => simp
        | cons _ _ => simp
      | cons _ _ =>
        cases hy' with
        | nil => simp
        | cons _ _ => simp at hz
    show Q (.done (.ret (.bool (xs.toArray.size == ys.toArray.size)))) s'
    rw [hfin]; exact h
theorem row_eqBool {x y : List (List Int)} {a b : Addr} {Q : Bool → Shared → Prop} (hu : A.units + 1 < cLine) (hx : IsRow prog w s.heap x a) (hy : IsRow prog w s.heap y b) (h : Q (decide (x = y)) s) :
    wpAny (model prog w) A (eqBool (.ref a) (.ref b)) Q E s := by
  unfold eqBool
  try with_reducible refine wpAny_holding ?_
  show wpAny _ _ (if (Value.ref a == Value.ref b) = true then _ else _) Q E s
  by_cases hab : (Value.ref a == Value.ref b) = true
  · rw [if_pos hab]
    have e : a = b := by have := eq_of_beq hab; injection this
    subst e
    obtain ⟨xs, na, hoa, hia⟩ := hx
    obtain ⟨ys, nb, hob, hib⟩ := hy
    rw [hoa] at hob
    cases hob
    obtain rfl := hia.inj hib
    exact wpAny_bind (wpAny_rule (wpAny_pure (by simpa using h)))
  · rw [if_neg hab]
    have hTa : s.TypeIs (.ref a) "tuple" := by obtain ⟨_, _, ho, _⟩ := hx; exact ⟨_, ho, rfl⟩
    have hTb : s.TypeIs (.ref b) "tuple" := by obtain ⟨_, _, ho, _⟩ := hy; exact ⟨_, ho, rfl⟩
    exact wpAny_bind (wpAny_richCompare_same_room (op := .Eq) hTa hTb F.slot_tuple_eq
      (wpAny_call_entry F.slot_tuple_eq hTa F.entry_tuple_eq (row_eq_tree (by rw [Around.in1_units]; exact lin1 hu (by wtm_at "a")) hx hy ⟨_, rfl, (fun e => nomatch e), wpAny_truthy_bool h⟩) (F.args_tuple_eq_2 _ _)) (by exact lin1 hu (by wtm_at "a")))
theorem quiet_ints {n : Nat} {ks : List Int} {a : Addr} {Q : Bool → Shared → Prop} (hk : IsTupleKey (intKind prog w) s.heap ks a) (h : Q true s) : wpAny (model prog w) A (eqIsQuiet (n + 1) (.ref a)) Q E s := by
  have hT := hk.typeIs
  obtain ⟨o, items, n, ho, _, hd, hi⟩ := hk
  unfold eqIsQuiet
  refine wpAny_bind (wpAny_specialOf hT F.slot_tuple_eq.lookup ?_)
  show wpAny _ _ (isInstance (.ref a) (.type "tuple") >>= _) _ _ s
  refine wpAny_bind (wpAny_isInstance hT isSubtype_tuple_tuple ?_)
  simp only [Bool.not_true, Bool.false_eq_true, if_false]
  refine wpAny_bind (wpAny_seqItems ho hd ?_)
  refine wpAny_bind ?_
  show wpAny _ _ (forIn items _ _) _ _ s
  rw [← Array.forIn_toList]
  refine wpAny_forIn_list _ (fun rest r s' => r.1 = none ∧ s' = s ∧ ∀ v ∈ rest, carriedByValue v = true) _ ?_ ?_ _ _ ⟨rfl, rfl, hi.byValue⟩
  · rintro v rest r s' ⟨hr, rfl, hall⟩
    rw [eqIsQuiet_byValue _ (hall v List.mem_cons_self)]
    refine wpAny_bind (wpAny_pure ?_)
    simp only [Bool.not_true, Bool.false_eq_true, if_false]
    exact wpAny_pure ⟨rfl, rfl, fun u hu' => hall u (List.mem_cons_of_mem _ hu')⟩
  · rintro ⟨r1, r2⟩ s' ⟨hr, rfl, _⟩
    simp only at hr
    subst hr
    exact wpAny_pure h
theorem quiet_row {ks : List (List Int)} {a : Addr} {Q : Bool → Shared → Prop} (hk : IsRow prog w s.heap ks a) (h : Q true s) : wpAny (model prog w) A (eqIsQuiet 8 (.ref a)) Q E s := by
  obtain ⟨items, n, ho, hi⟩ := hk
  have hT : s.TypeIs (.ref a) "tuple" := ⟨_, ho, rfl⟩
  unfold eqIsQuiet
  refine wpAny_bind (wpAny_specialOf hT F.slot_tuple_eq.lookup ?_)
  show wpAny _ _ (isInstance (.ref a) (.type "tuple") >>= _) _ _ s
  refine wpAny_bind (wpAny_isInstance hT isSubtype_tuple_tuple ?_)
  simp only [Bool.not_true, Bool.false_eq_true, if_false]
  refine wpAny_bind (wpAny_seqItems ho rfl ?_)
  refine wpAny_bind ?_
  show wpAny _ _ (forIn items.toArray _ _) _ _ s
  rw [← Array.forIn_toList]
  refine wpAny_forIn_list _ (fun rest r s' => r.1 = none ∧ s' = s ∧ ∃ ks, ItemsR prog w s.heap ks rest) _ ?_ ?_ _ _ ⟨rfl, rfl, ks, hi⟩
  · rintro v rest r s' ⟨hr, rfl, ks, hall⟩
    cases hall with
    | cons h1 h2 =>
      refine wpAny_bind (quiet_ints h1 ?_)
      simp only [Bool.not_true, Bool.false_eq_true, if_false]
      exact wpAny_pure ⟨rfl, rfl, _, h2⟩
  · rintro ⟨r1, r2⟩ s' ⟨hr, rfl, _⟩
    simp only at hr
    subst hr
    exact wpAny_pure h
noncomputable def rowKind (prog : Program) (w : World) : HeapKind prog w (List (List Int)) where
  is := IsRow prog w
  hash := rowHash prog w
  draws := fun ks => rowDraws ks + 1
  room := fun A => A.units + 1 < cLine
  inj := fun p q => by obtain ⟨_, _, h1, i1⟩ := p; obtain ⟨_, _, h2, i2⟩ := q; rw [h1] at h2; cases h2; exact i1.inj i2
  keeps := fun {h h' k a d o es ep} p ho hd hs => by obtain ⟨items, n, h1, i1⟩ := p; exact ⟨items, n, (hs.2 a (by rintro rfl; rw [h1] at ho; cases ho; cases hd)).trans h1, i1.keeps ho hd hs⟩
  pyHash := fun hu hk h => row_pyHash hu hk h
  eqBool := fun hu hx hy h => row_eqBool hu hx hy h
  quiet := fun hk h => quiet_row hk h
end
theorem andN (a b : Nat) : Builtin.bitAnd (a : Int) (b : Int) = ((a &&& b : Nat) : Int) := by
  unfold Builtin.bitAnd
  rw [decide_eq_true (by omega : (0 : Int) ≤ a), decide_eq_true (by omega : (0 : Int) ≤ b)]
  rfl
theorem orN (a b : Nat) : Builtin.bitOr (a : Int) (b : Int) = ((a ||| b : Nat) : Int) := by
  have e : ∀ n : Nat, Builtin.bitNot (n : Int) = Int.negSucc n := fun n => by unfold Builtin.bitNot; omega
  have e' : ∀ n : Nat, Builtin.bitNot (Int.negSucc n) = (n : Int) := fun n => by unfold Builtin.bitNot; omega
  unfold Builtin.bitOr
  rw [e, e]
  unfold Builtin.bitAnd
  rw [decide_eq_false (by omega : ¬ (0 : Int) ≤ Int.negSucc a), decide_eq_false (by omega : ¬ (0 : Int) ≤ Int.negSucc b)]
  dsimp only
  rw [e', e', e]
  have : ∀ z : Nat, (Int.negSucc z) = Builtin.bitNot (z : Int) := fun z => (e z).symm
  rw [e']
  rfl
section
variable {w : World} {A : Around} {env : Env} {G : Gh} {outer : List Env} {Z : Zt} {vs : List (Option Value)} {mt : List (Addr × Obj)} {s : Shared} {E : Value → Shared → Prop}
theorem R_and {a b : Nat} {t u : Tok} {Q : Value → Shared → Prop} (S : St G Z vs mt s) (h : ∀ t s', St G Z vs mt s' → Q (.int ((a &&& b : Nat) : Int) t) s') : wpAny (model P w) A (binaryOp .BitAnd (.int (a : Int) t) (.int (b : Int) u)) Q E s :=
  and_int (by rw [andN]; exact h _ _ S.tok)
theorem R_or {a b : Nat} {t u : Tok} {Q : Value → Shared → Prop} (S : St G Z vs mt s) (h : ∀ t s', St G Z vs mt s' → Q (.int ((a ||| b : Nat) : Int) t) s') : wpAny (model P w) A (binaryOp .BitOr (.int (a : Int) t) (.int (b : Int) u)) Q E s :=
  or_int (by rw [orN]; exact h _ _ S.tok)
theorem R_shl {a b : Nat} {t u : Tok} {Q : Value → Shared → Prop} (S : St G Z vs mt s) (hb : b ≤ 1000) (ha : a < 2 ^ 60) (h : ∀ t s', St G Z vs mt s' → Q (.int ((a <<< b : Nat) : Int) t) s') : wpAny (model P w) A (binaryOp .LShift (.int (a : Int) t) (.int (b : Int) u)) Q E s := by
  refine lshift_int_small (by omega) (by omega) (by omega) ?_
  have := h s.toks { s with toks := s.toks + 1 } S.tok
  rw [show ((a <<< b : Nat) : Int) = (a : Int) * 2 ^ (b : Int).toNat by rw [Nat.shiftLeft_eq]; simp] at this
  exact this
theorem R_shr {a b : Nat} {t u : Tok} {Q : Value → Shared → Prop} (S : St G Z vs mt s) (h : ∀ t s', St G Z vs mt s' → Q (.int ((a >>> b : Nat) : Int) t) s') : wpAny (model P w) A (binaryOp .RShift (.int (a : Int) t) (.int (b : Int) u)) Q E s := by
  refine rshift_int (by omega) ?_
  have := h s.toks { s with toks := s.toks + 1 } S.tok
  rw [show ((a >>> b : Nat) : Int) = Int.fdiv (a : Int) (2 ^ (b : Int).toNat) by
    rw [Nat.shiftRight_eq_div_pow, Int.toNat_natCast, show (2 : Int) ^ b = ((2 ^ b : Nat) : Int) by simp, fdivN]] at this
  exact this
theorem R_bne {b c : List UInt8} {t u : Tok} {Q : Value → Shared → Prop} (h : Q (.bool (b != c)) s) : wpAny (model P w) A (compareOp .NotEq (.bytes b.toArray t) (.bytes c.toArray u)) Q E s := PySem.W.ne_bytes h
theorem V_slice {lower upper : Option PySem.Expr} {p : Pos} {Q : Value → Shared → Prop}
    (h : wpAny (model P w) A (evalPart lower env) (fun l s₁ => wpAny (model P w) A (evalPart upper env) (fun u s₂ =>
      Q (.ref s₂.heap.objs.size) { s₂ with heap := s₂.heap.push { cls := .type "slice", data := .fields #[l, u, .none] } }) E s₁) E s) :
    wpAny (model P w) A (eval (.Slice lower upper none p) env) Q E s := wpAny_Slice (wpAny_mono h (fun _ _ z => wpAny_mono z (fun _ _ y => wpAny_pure y) fun _ _ e => e) fun _ _ e => e)
theorem V_some {e : PySem.Expr} {Q : Value → Shared → Prop} (h : wpAny (model P w) A (eval e env) Q E s) : wpAny (model P w) A (evalPart (some e) env) Q E s := h
theorem V_nonePart {Q : Value → Shared → Prop} (h : Q .none s) : wpAny (model P w) A (evalPart none env) Q E s := wpAny_pure h
noncomputable def cut (b : List UInt8) (lo hi : Option Int) : List UInt8 := (b.drop (lo.elim 0 (clipAt b.length))).take (hi.elim b.length (clipAt b.length) - lo.elim 0 (clipAt b.length))
theorem cut_upto (b : List UInt8) (n : Nat) : cut b none (some (n : Int)) = b.take n := by
  unfold cut
  simp only [Option.elim, clipAt_nat, List.drop_zero, Nat.sub_zero]
  rw [List.take_eq_take_iff]; omega
theorem cut_from (b : List UInt8) (n : Nat) : cut b (some (n : Int)) none = b.drop n := by
  unfold cut
  simp only [Option.elim, clipAt_nat]
  rcases Nat.le_total n b.length with h | h
  · rw [Nat.min_eq_left h, List.take_of_length_le (by simp)]
  · rw [Nat.min_eq_right h, Nat.sub_self, List.take_zero, List.drop_of_length_le h]
theorem cut_run (b : List UInt8) (n m : Nat) (h : n + m ≤ b.length) : cut b (some (n : Int)) (some ((n + m : Nat) : Int)) = (b.drop n).take m := by
  unfold cut
  simp only [Option.elim, clipAt_nat]
  rw [Nat.min_eq_left (show n ≤ b.length by exact lin1 h (by wtm_at "a")), Nat.min_eq_left h, Nat.add_sub_cancel_left]
theorem R_bcut {value slice : PySem.Expr} {b : List UInt8} {t : Tok} {l u : Value} {lo hi : Option Int} {Q : Value → Shared → Prop} (a : Act w A env G outer) (S : St G Z vs mt s) (hl : IsPart l lo) (hu : IsPart u hi) (hz : b.length ≤ sizeLine)
    (hs : subscripted slice false (.bytes b.toArray t) (.ref s.heap.objs.size) = operate [.ref s.heap.objs.size, .bytes b.toArray t] (getItem (.bytes b.toArray t) (.ref s.heap.objs.size)))
    (h : ∀ t' s', St G Z vs mt s' → Q (.bytes (cut b lo hi).toArray t') s') (ht : ∀ r, letTemporaryGo value (.bytes b.toArray t) r = pure () := by intro _; with_unfolding_all rfl) :
    wpAny (model P w) A (subscriptTail value slice (.bytes b.toArray t) (.ref s.heap.objs.size)) Q E { s with heap := s.heap.push { cls := .type "slice", data := .fields #[l, u, .none] } } := by
  have e : KBy.picked b.toArray lo hi = (cut b lo hi).toArray := by rw [KBc.picked_eq, List.size_toArray]; rfl
  refine tail_of_ItemOn ⟨"bytes", _, FB.slot_bytes_getitem.lookup, typeIs_bytes _ _ _, getItem_meets (typeIs_bytes _ _ _) (by decide) FB.slot_bytes_getitem FB.entry_bytes_getitem (FB.args_bytes_getitem_2 _ _) (KBc.meets_slice2 b.toArray t _ hl hu)
    ⟨Heap.IsSliceOf.new _ _ _ _, Nat.le_trans (KBc.size_picked_le b.toArray lo hi) (by rw [List.size_toArray]; exact hz), fun t' k => ?_⟩⟩ hs ht
  rw [e]
  exact h _ _ ((S.push a _ rfl k).sub (List.sublist_cons_self _ _))
theorem R_lcut {value slice : PySem.Expr} {l : Addr} {xs : List Value} {c : Nat} {vl vu : Value} {lo hi : Option Int} {Q : Value → Shared → Prop} (a : Act w A env G outer) (S : St G Z vs mt s) (hl : s.heap.get? l = some (Lo xs c)) (pl : IsPart vl lo) (pu : IsPart vu hi) (hz : xs.length ≤ sizeLine)
    (hs : subscripted slice false (.ref l) (.ref s.heap.objs.size) = operate [.ref s.heap.objs.size, .ref l] (getItem (.ref l) (.ref s.heap.objs.size)))
    (h : ∀ l' s', St G Z vs ((l', Lo ((xs.drop (lo.elim 0 (clipAt xs.length))).take (hi.elim xs.length (clipAt xs.length) - lo.elim 0 (clipAt xs.length))) 0) :: mt) s' → Fresh G Z l' → Q (.ref l') s') (ht : ∀ r, letTemporaryGo value (.ref l) r = pure () := by intro _; with_unfolding_all rfl) :
    wpAny (model P w) A (subscriptTail value slice (.ref l) (.ref s.heap.objs.size)) Q E { s with heap := s.heap.push { cls := .type "slice", data := .fields #[vl, vu, .none] } } := by
  have S1 := S.push a { cls := .type "slice", data := .fields #[vl, vu, .none] } rfl s.toks
  have hl1 : ({ s with heap := s.heap.push { cls := .type "slice", data := .fields #[vl, vu, .none] } } : Shared).heap.IsList l xs.toArray := ⟨_, Heap.get?_push_of_some _ hl, rfl, c, rfl⟩
  refine subscriptTail_ops (Heap.IsList.typeIs hl1) list_getitem_lookup (wpAny_getItem_list_slice hl1 (Heap.IsSliceOf.new ..) pl pu .none (by simp) ?_ (by rw [List.size_toArray]; exact hz)) hs ht
  have S2 := S1.push a (Lo ((xs.drop (lo.elim 0 (clipAt xs.length))).take (hi.elim xs.length (clipAt xs.length) - lo.elim 0 (clipAt xs.length))) 0) rfl s.toks
  have e : slicePick xs.toArray lo hi none = ((xs.drop (lo.elim 0 (clipAt xs.length))).take (hi.elim xs.length (clipAt xs.length) - lo.elim 0 (clipAt xs.length))).toArray := by rw [slicePick_plain, List.size_toArray]
  rw [e]
  exact h _ _ (S2.sub (List.Sublist.cons_cons _ (List.sublist_cons_self _ _))) (a.fresh S1 no_size)
theorem R_tuple {l : Addr} {xs : List Value} {Q : Value → Shared → Prop} (a : Act w A env G outer) (S : St G Z vs mt s) (hl : s.heap.IsList l xs.toArray) (hz : xs.length ≤ sizeLine)
    (h : ∀ t s', St G Z vs ((t, To xs 0) :: mt) s' → Fresh G Z t → Q (.ref t) s') : wpAny (model P w) A (call (.type "tuple") [.ref l]) Q E s := by
  refine call_tuple_list hl (fun h' hk => ?_) (by rw [List.size_toArray]; exact hz)
  have S1 := S.grow (tk := s.toks) hk
  exact h _ _ (S1.push a _ rfl s.toks) (a.fresh S1 no_size)
theorem R_list {l : Addr} {xs : List Value} {c : Nat} {Q : Value → Shared → Prop} (a : Act w A env G outer) (S : St G Z vs mt s) (hl : s.heap.get? l = some (Lo xs c)) (hz : xs.length ≤ sizeLine)
    (h : ∀ t c' s', St G Z vs ((t, Lo xs c') :: mt) s' → Fresh G Z t → Q (.ref t) s') : wpAny (model P w) A (call (.type "list") [.ref l]) Q E s := by
  refine call_list_seq l (.inl rfl) hl rfl rfl (fun h' c' hk hn => ?_) (by rw [List.size_toArray]; exact hz)
  have S1 := S.grow (tk := s.toks) hk
  exact h _ c' _ (S.own S1 no_size hn (a.frl S)) (a.fresh S no_size)
theorem flat_rep {x : Value} : ∀ n : Nat, List.foldl (fun x1 x2 => x1 ++ x2) (#[] : Array Value) (List.replicate n #[x]) = (List.replicate n x).toArray := by
  have key : ∀ (n : Nat) (acc : Array Value), List.foldl (fun x1 x2 => x1 ++ x2) acc (List.replicate n #[x]) = acc ++ (List.replicate n x).toArray := by
    intro n
    induction n with
    | zero => intro acc; simp
    | succ n ih => intro acc; rw [List.replicate_succ, List.foldl_cons, ih, List.replicate_succ]; apply Array.toList_inj.mp; simp
  intro n
  rw [key]; simp
theorem mul_raw {l : Addr} {items : Array Value} {k : Nat} {x : Int} {u : Tok} {Q : Value → Shared → Prop} (hl : s.heap.get? l = some { cls := .type "list", dict := none, data := .seq items k, slots := #[] })
    (hlo : -(2 ^ 63 : Int) ≤ x) (hhi : x < 2 ^ 63) (hsz : items.size * x.toNat ≤ 2 ^ 24)
    (h : Q (.ref s.heap.objs.size) { s with heap := s.heap.push { cls := .type "list", data := .seq (List.foldl (fun x1 x2 => x1 ++ x2) #[] (List.replicate (if items.isEmpty = true then 0 else x.toNat) items)) } }) :
    wpAny (model P w) A (binaryOp .Mult (.ref l) (.int x u)) Q E s :=
  wpAny_binaryOp_repeat_ref (T := "list") (U := "int") (by decide) ⟨_, hl, rfl⟩ (fun s' => typeIs_int s' x u) noFill_list_mul PySem.F.fills_int_mul PySem.F.slot_int_rmul repeat_list PySem.F.slot_int_index.lookup
    (call_meets PySem.F.slot_int_rmul (typeIs_int s x u) PySem.F.entry_int_rmul (PySem.F.args_int_rmul_2 _ _) (int___rmul___int_list x u l items k)
      ⟨hl, rfl, ⟨_, hl, rfl⟩, call_meets PySem.F.slot_list_mul ⟨_, hl, rfl⟩ PySem.F.entry_list_mul (PySem.F.args_list_mul_2 _ _)
        (AutoListH.list___mul___list_int_3 l items k x u (by simp [Builtin.List.listFitsIndex]; omega) (by omega) (by simp [Builtin.List.listTooLong, sizeLine]; exact lin1 hsz (by wtm_at "p")))
        ⟨hl, h⟩⟩)
theorem R_rep {l : Addr} {x : Value} {c n : Nat} {u : Tok} {Q : Value → Shared → Prop} (a : Act w A env G outer) (S : St G Z vs mt s) (hl : s.heap.get? l = some (Lo [x] c)) (hn : n ≤ 16777216)
    (h : ∀ l' s', St G Z vs ((l', Lo (List.replicate n x) 0) :: mt) s' → Fresh G Z l' → Q (.ref l') s') : wpAny (model P w) A (binaryOp .Mult (.ref l) (.int (n : Int) u)) Q E s := by
  refine mul_raw hl (by omega) (by omega) (by simp; exact lin1 hn (by wtm_at "a")) ?_
  have S1 := S.push a (Lo (List.replicate n x) 0) rfl s.toks
  rw [show (if ([x].toArray.isEmpty) = true then 0 else (n : Int).toNat) = n by simp, show [x].toArray = #[x] from rfl, flat_rep]
  exact h _ _ S1 (a.fresh S no_size)
theorem R_extend {l b : Addr} {xs ys : List Value} {n n2 : Nat} {mt' : Nat → List (Addr × Obj)} {Q : Value → Shared → Prop} (S : St G Z vs mt s) (c : ∀ n', Chg l (Lo xs n) (Lo (xs ++ ys) n') mt (mt' n')) (hb : s.heap.get? b = some (Lo ys n2)) (hz : xs.length + ys.length ≤ sizeLine)
    (h : ∀ n' s', St G Z vs (mt' n') s' → Q .none s') : wpAny (model P w) A (call (.builtin "list.extend") [.ref l, .ref b]) Q E s := by
  have hm := (S.mu _ (c 0).mem).1
  have hz' : xs.toArray.size + ys.toArray.size ≤ sizeLine := by rw [List.size_toArray, List.size_toArray]; exact hz
  refine call_meets PySem.F.slot_list_extend ⟨_, hm, rfl⟩ PySem.F.entry_list_extend (PySem.F.args_list_extend_2 _ _) (AutoSeq1.list_extend_list_list_0 l xs.toArray n b ys.toArray n2 (extend_door hz') (Nat.le_trans (Nat.le_add_right _ _) hz')) ⟨hm, hb, ?_⟩
  have e : xs.toArray ++ ys.toArray = (xs ++ ys).toArray := by simp
  have ho' : (s.heap.update l (Obj.mapSeq fun x => x ++ ys.toArray)).get? l = some (Lo (xs ++ ys) (if (xs.toArray ++ ys.toArray).size == xs.toArray.size then n else n + 1)) := by
    rw [Heap.get?_update_self _ hm (by rw [mapSeq_app]; rfl), mapSeq_app, e]
  exact h _ _ (S.chg (tk := s.toks) (c _) (Heap.SameBut.update ..) ho')
theorem G_extend {l : Addr} {xs : List Value} {n : Nat} {pl : Sem Bool} {Q : Value × List Value → Shared → Prop} (hl : s.heap.get? l = some (Lo xs n)) (h : Q (.builtin "list.extend", [.ref l]) s) : wpAny (model P w) A (getMethod (.ref l) "extend" pl) Q E s :=
  getMethod_builtin ⟨_, hl, rfl⟩ PySem.F.plainAttrs_list PySem.F.slot_list_extend PySem.F.type_list_extend (fun a e => by cases e; exact ⟨_, hl, rfl⟩) h
end
theorem eqv_int (a b : Nat) (t u : Tok) : MeetsSeq.EqGives (.int (a : Int) t) (.int (b : Int) u) (decide (a = b)) := fun prog w A s E Q h => wpAny_eqBool_int (by rw [show ((a : Int) == (b : Int)) = decide (a = b) by by_cases q : a = b <;> simp [q, Int.natCast_inj]]; exact h)
theorem eqv_bytes (a b : List UInt8) (t u : Tok) : MeetsSeq.EqGives (.bytes a.toArray t) (.bytes b.toArray u) (decide (a = b)) := fun prog w A s E Q h => eqBool_bytes h
theorem find_mem {α β : Type} [DecidableEq β] (f : α → β) (l : List α) (b : β) : (l.find? fun x => decide (f x = b)).isSome = decide (b ∈ l.map f) := by
  rw [Bool.eq_iff_iff, List.find?_isSome, decide_eq_true_eq, List.mem_map]
  constructor
  · rintro ⟨x, hx, e⟩; exact ⟨x, hx, of_decide_eq_true e⟩
  · rintro ⟨x, hx, e⟩; exact ⟨x, hx, decide_eq_true e⟩
theorem all_same {α : Type} [DecidableEq α] : ∀ {ps qs : List α}, ps.length = qs.length → ((List.range ps.length).all fun j => decide (ps[j]? = qs[j]?)) = decide (ps = qs) := by
  intro ps qs hl
  by_cases h : ps = qs
  · subst h; simp
  · rw [decide_eq_false h]
    rw [Bool.eq_false_iff]
    intro e
    rw [List.all_eq_true] at e
    refine h (List.ext_getElem? fun j => ?_)
    rcases Nat.lt_or_ge j ps.length with q | q
    · exact of_decide_eq_true (e j (List.mem_range.mpr q))
    · rw [List.getElem?_eq_none q, List.getElem?_eq_none (by exact lin2 (Nat.le_of_eq hl.symm) q (by wtm_at "a"))]
section
variable {w : World} {A : Around} {env : Env} {G : Gh} {outer : List Env} {Z : Zt} {vs : List (Option Value)} {mt : List (Addr × Obj)} {s : Shared} {E : Value → Shared → Prop}
theorem R_lne {α : Type} [DecidableEq α] {R : Value → α → Prop} {l b : Addr} {xs ys : List Value} {ps qs : List α} {Q : Value → Shared → Prop} (hR : ∀ v u p q, R v p → R u q → MeetsSeq.EqGives v u (decide (p = q)))
    (hl : s.heap.IsList l xs.toArray) (hb : s.heap.IsList b ys.toArray) (hx : All2 R xs ps) (hy : All2 R ys qs) (hu : A.units < cLine) (h : Q (.bool (!decide (ps = qs))) s) : wpAny (model P w) A (compareOp .NotEq (.ref l) (.ref b)) Q E s := by
  by_cases hn : ps.length = qs.length
  · refine SeqAt.RcNeAt.lists (e := fun j => decide (ps[j]? = qs[j]?)) hl hb (by rw [List.size_toArray, List.size_toArray, hx.length, hy.length, hn]) hu (fun j h1 h2 => ?_) P w E Q ?_
    · rw [List.size_toArray] at h1 h2
      obtain ⟨p, hp, r1⟩ := hx.get (List.getElem?_eq_getElem h1)
      obtain ⟨q, hq, r2⟩ := hy.get (List.getElem?_eq_getElem h2)
      rw [hp, hq]
      have := hR _ _ _ _ r1 r2
      simp only [Option.some.injEq]
      exact this.at _ _
    · rw [List.size_toArray, hx.length, all_same hn]; exact h
  · refine SeqAt.RcNeAt.lists_lengths hl hb (by rw [List.size_toArray, List.size_toArray, hx.length, hy.length]; simpa using hn) hu P w E Q ?_
    rw [decide_eq_false (fun e => hn (by rw [e]))] at h
    exact h
theorem R_ne_nil {l b : Addr} {xs : List Value} {Q : Value → Shared → Prop} (hl : s.heap.IsList l xs.toArray) (hb : s.heap.IsList b #[]) (hu : A.units < cLine) (h : Q (.bool (!xs.isEmpty)) s) : wpAny (model P w) A (compareOp .NotEq (.ref l) (.ref b)) Q E s := by
  cases xs with
  | nil =>
    refine SeqAt.RcNeAt.lists (e := fun _ => true) hl hb rfl hu (fun j h1 h2 => absurd h2 (Nat.not_lt_zero _)) P w E Q ?_
    exact h
  | cons x xs =>
    refine SeqAt.RcNeAt.lists_lengths hl hb (by simp) hu P w E Q ?_
    exact h
theorem R_eq_nil {l b : Addr} {xs : List Value} {Q : Value → Shared → Prop} (hl : s.heap.IsList l xs.toArray) (hb : s.heap.IsList b #[]) (hu : A.units < cLine) (h : Q (.bool xs.isEmpty) s) : wpAny (model P w) A (compareOp .Eq (.ref l) (.ref b)) Q E s := by
  cases xs with
  | nil => exact SeqAt.eq_listAt (e := fun _ => true) hl hb rfl hu (fun j h1 h2 => absurd h2 (Nat.not_lt_zero _)) h
  | cons x xs => exact SeqAt.eq_list_lengthsAt hl hb (by simp) hu h
theorem R_tne2 {l b : Addr} {a1 a2 b1 b2 : Nat} {t1 t2 u1 u2 : Tok} {c d : Nat} {Q : Value → Shared → Prop} (hl : s.heap.get? l = some (To [.int (a1 : Int) t1, .int (a2 : Int) t2] c)) (hb : s.heap.get? b = some (To [.int (b1 : Int) u1, .int (b2 : Int) u2] d)) (hu : A.units < cLine)
    (h : Q (.bool (!decide ((a1, a2) = (b1, b2)))) s) : wpAny (model P w) A (compareOp .NotEq (.ref l) (.ref b)) Q E s := by
  refine SeqAt.RcNeAt.tuples (items := #[.int (a1 : Int) t1, .int (a2 : Int) t2]) (items2 := #[.int (b1 : Int) u1, .int (b2 : Int) u2]) (e := fun j => if j = 0 then decide (a1 = b1) else decide (a2 = b2)) ⟨_, hl, rfl, c, rfl⟩ ⟨_, hb, rfl, d, rfl⟩ hu (fun j h1 h2 => ?_) P w E Q ?_
  · match j, h1 with
    | 0, _ => exact (eqv_int a1 b1 t1 u1).at _ _
    | 1, _ => exact (eqv_int a2 b2 t2 u2).at _ _
  · have : ((List.range (min (#[Value.int (a1 : Int) t1, .int (a2 : Int) t2] : Array Value).size (#[Value.int (b1 : Int) u1, .int (b2 : Int) u2] : Array Value).size)).all (fun j => if j = 0 then decide (a1 = b1) else decide (a2 = b2)) && (#[Value.int (a1 : Int) t1, .int (a2 : Int) t2] : Array Value).size == (#[Value.int (b1 : Int) u1, .int (b2 : Int) u2] : Array Value).size) = decide ((a1, a2) = (b1, b2)) := by
      show ((List.range 2).all (fun j => if j = 0 then decide (a1 = b1) else decide (a2 = b2)) && true) = _
      simp [List.range_succ, Prod.mk.injEq]
    rw [this]; exact h
theorem big (a : Act w A env G outer) (S : St G Z vs mt s) : 45 < s.heap.objs.size := Heap.lt_size (badAt (a.kh S))
theorem R_dict {pos : Pos} {Q : Value → Shared → Prop} (a : Act w A env G outer) (S : St G Z vs mt s) (h : ∀ d s', St G Z vs ((d, emptyDict) :: mt) s' → Fresh G Z d → (d == sysModules) = false → Q (.ref d) s') : wpAny (model P w) A (eval (.Dict [] [] pos) env) Q E s := by
  refine wpAny_Dict_empty (h _ _ (S.push a emptyDict rfl s.toks) (a.fresh S no_size) (beq_eq_false_iff_ne.mpr fun e => ?_))
  have := big a S
  have e' : s.heap.objs.size = 1 := e
  exact linF2 this (Nat.le_of_eq e') (by wtm_at "a")
noncomputable def encK (ps : List (Nat × Nat)) : List (List Int) := ps.map fun p => [(p.1 : Int), (p.2 : Int)]
theorem encK_inj {ps qs : List (Nat × Nat)} (h : encK ps = encK qs) : ps = qs := by
  induction ps generalizing qs with
  | nil => cases qs with
    | nil => rfl
    | cons => cases h
  | cons p ps ih => cases qs with
    | nil => cases h
    | cons q qs =>
      obtain ⟨h1, h2⟩ := List.cons.inj h
      obtain ⟨e1, h3⟩ := List.cons.inj h1
      exact List.cons_eq_cons.mpr ⟨Prod.ext (Int.ofNat.inj e1) (Int.ofNat.inj (List.cons.inj h3).1), ih h2⟩
inductive RowKeys (w : World) (Z : Zt) (rs : List (List (Nat × Nat))) (o : Obj) : Prop
  | mk (es : Array DictEntry) (ep : Nat) (xs : List (List (List Int) × Addr × Value)) : o.ExactDict → o.data = .dict es ep → es.toList = xs.map (entryOfKey (rowKind P w)) → xs.map (·.1) = rs.map encK → (∀ x ∈ xs, ∀ h : Heap, (∀ a o, Z a o → h.get? a = some o) → IsRow P w h x.1 x.2.1) → rs.Nodup → RowKeys w Z rs o
theorem items_row {h : Heap} {vs : List Value} {ps : List (Nat × Nat)} (r : All2 (PairV Z) vs ps) (hz : ∀ a o, Z a o → h.get? a = some o) : ItemsR P w h (encK ps) vs := by
  induction r with
  | nil => exact .nil
  | cons r _ ih =>
    obtain ⟨a, t1, t2, c, rfl, ha⟩ := r
    exact .cons ⟨_, _, _, hz _ _ ha, rfl, rfl, .cons (intKind_is _ _ _ _) (.cons (intKind_is _ _ _ _) .nil)⟩ ih
theorem RowKeys.at {d : Addr} {o : Obj} {rs : List (List (Nat × Nat))} (S : St G Z vs mt s) (hd : s.heap.get? d = some o) (hK : RowKeys w Z rs o) : ∃ xs, s.heap.DictOfH (rowKind P w) d xs ∧ xs.map (·.1) = rs.map encK ∧ (∀ x ∈ xs, ∀ h : Heap, (∀ a o, Z a o → h.get? a = some o) → IsRow P w h x.1 x.2.1) ∧ rs.Nodup := by
  obtain ⟨es, ep, xs, hx, hdt, he, hm, hk, hn⟩ := hK
  refine ⟨xs, ⟨o, es, ep, hd, hx, hdt, he, fun x hx => hk x hx _ S.z, ?_⟩, hm, hk, hn⟩
  rw [hm]
  exact hn.map _ (fun a b e => fun q => e (encK_inj q))
theorem atKey_rows {xs : List (List (List Int) × Addr × Value)} {rs : List (List (Nat × Nat))} (hm : xs.map (·.1) = rs.map encK) (ps : List (Nat × Nat)) : (atKey xs (encK ps)).isSome = decide (ps ∈ rs) := by
  unfold atKey
  rw [Option.isSome_map, find_mem, hm]
  by_cases h : ps ∈ rs
  · rw [decide_eq_true h]; simp only [decide_eq_true_eq]; exact List.mem_map_of_mem h
  · rw [decide_eq_false h]; simp only [decide_eq_false_iff_not]
    intro e
    obtain ⟨q, hq, e'⟩ := List.mem_map.mp e
    exact h (encK_inj e' ▸ hq)
theorem R_inRow {d k : Addr} {o : Obj} {rs : List (List (Nat × Nat))} {xs : List Value} {c : Nat} {ps : List (Nat × Nat)} {Q : Value → Shared → Prop} (S : St G Z vs mt s) (hd : s.heap.get? d = some o) (hK : RowKeys w Z rs o) (hs : (d == sysModules) = false)
    (hk : s.heap.get? k = some (To xs c)) (hp : All2 (PairV Z) xs ps) (hu : A.units + 2 < cLine) (h : ∀ s', St G Z vs mt s' → Q (.bool (decide (ps ∈ rs))) s') : wpAny (model P w) A (compareOp .In (.ref k) (.ref d)) Q E s := by
  obtain ⟨ys, hD, hm, _, _⟩ := hK.at S hd
  refine wpAny_in_heap (knd := rowKind P w) (k := encK ps) (show A.in1.units + 1 < cLine by rw [Around.in1_units]; exact lin1 hu (by wtm_at "a")) ⟨xs, c, hk, items_row hp S.z⟩ hs hD ?_
  rw [atKey_rows hm]
  exact h _ S.tok
theorem R_setRow {d k : Addr} {o : Obj} {rs : List (List (Nat × Nat))} {xs : List Value} {c : Nat} {ps : List (Nat × Nat)} {v : Value} {mt' : Obj → List (Addr × Obj)} {Q : Unit → Shared → Prop} (S : St G Z vs mt s) (hc : ∀ o', Chg d o o' mt (mt' o')) (hK : RowKeys w Z rs o) (hz : rs.length ≤ sizeLine)
    (hk : Z k (To xs c)) (hp : All2 (PairV Z) xs ps) (hn : ps ∉ rs) (hu : A.units + 2 < cLine) (h : ∀ o' s', RowKeys w Z (rs ++ [ps]) o' → St G Z vs (mt' o') s' → Q () s') : wpAny (model P w) A (setItem (.ref d) (.ref k) v) Q E s := by
  have hd := (S.mu _ (hc o).mem).1
  obtain ⟨ys, hD, hm, hkk, hnd⟩ := hK.at S hd
  have hlen : ys.length = rs.length := by have := congrArg List.length hm; simpa using this
  refine wpAny_setItem_heap (knd := rowKind P w) (k := encK ps) (show A.in1.units + 1 < cLine by rw [Around.in1_units]; exact lin1 hu (by wtm_at "a")) ⟨xs, c, S.z _ _ hk, items_row hp S.z⟩ hD (fun h' hD' hs' => ?_) (by exact lin2 hz (Nat.le_of_eq hlen) (by wtm_at "a"))
  have hnone : atKey ys (encK ps) = none := by
    have := atKey_rows hm ps
    rw [decide_eq_false hn] at this
    cases q : atKey ys (encK ps) with
    | none => rfl
    | some _ => rw [q] at this; cases this
  rw [storedH_new hnone] at hD'
  obtain ⟨o', es', ep', ho', hx', hdt', he', hk', hn'⟩ := hD'
  refine h o' _ ⟨es', ep', _, hx', hdt', he', ?_, ?_, ?_⟩ (S.chg (tk := s.toks + (rowKind P w).draws (encK ps)) (hc o') hs' ho')
  · rw [List.map_append, List.map_append, hm]; rfl
  · intro x hx hh hz
    rcases List.mem_append.mp hx with hx | hx
    · exact hkk x hx hh hz
    · rw [List.mem_singleton] at hx; subst hx
      exact ⟨xs, c, hz _ _ hk, items_row hp hz⟩
  · rw [List.nodup_append]
    exact ⟨hnd, List.nodup_cons.mpr ⟨List.not_mem_nil, List.nodup_nil⟩, fun a ha b hb e => by rw [List.mem_singleton] at hb; subst hb; subst e; exact hn ha⟩
theorem RowKeys.empty : RowKeys w Z [] emptyDict := ⟨#[], 0, [], ⟨rfl, rfl, rfl⟩, rfl, rfl, rfl, (by intro x hx; cases hx), List.nodup_nil⟩
theorem RowKeys.mono {Z' : Zt} {rs : List (List (Nat × Nat))} {o : Obj} (k : ∀ a o, Z a o → Z' a o) (h : RowKeys w Z rs o) : RowKeys w Z' rs o := by
  obtain ⟨es, ep, xs, a, b, c, d, e, f⟩ := h
  exact ⟨es, ep, xs, a, b, c, d, fun x hx hh hz => e x hx hh fun q r t => hz q r (k _ _ t), f⟩
noncomputable def BytesKeys (w : World) (rs : List (List UInt8)) (o : Obj) : Prop := ∃ kvs, o.IsDictOf (bytesKind P w) kvs ∧ kvs.map (·.1) = rs
theorem bytes_is (b : List UInt8) (t : Tok) : (bytesKind P w).is b (.bytes b.toArray t) = true := by simp [bytesKind, isBytes]
theorem BytesKeys.empty : BytesKeys w [] emptyDict := ⟨[], ⟨#[], 0, ⟨rfl, rfl, rfl⟩, rfl, (by intro e he; simp at he), .nil, List.nodup_nil⟩, rfl⟩
theorem valueAt_keys {kvs : List (List UInt8 × Value)} {b : List UInt8} : (valueAt kvs b).isSome = decide (b ∈ kvs.map (·.1)) := by
  unfold valueAt
  rw [Option.isSome_map, find_mem]
  by_cases h : b ∈ kvs.map (·.1)
  · rw [decide_eq_true h]; simp only [decide_eq_true_eq]; exact h
  · rw [decide_eq_false h]; simp only [decide_eq_false_iff_not]; exact h
theorem R_inBytes {d : Addr} {o : Obj} {rs : List (List UInt8)} {b : List UInt8} {t : Tok} {Q : Value → Shared → Prop} (S : St G Z vs mt s) (hd : s.heap.get? d = some o) (hK : BytesKeys w rs o) (hs : (d == sysModules) = false)
    (h : ∀ s', St G Z vs mt s' → Q (.bool (decide (b ∈ rs))) s') : wpAny (model P w) A (compareOp .In (.bytes b.toArray t) (.ref d)) Q E s := by
  obtain ⟨kvs, hD, rfl⟩ := hK
  refine wpAny_in_of (bytes_is b t) hs (Heap.dictOf_iff.mpr ⟨o, hd, hD⟩).mapOf ?_
  rw [valueAt_keys]
  exact h _ S.tok
theorem R_setBytes {d : Addr} {o : Obj} {rs : List (List UInt8)} {b : List UInt8} {t : Tok} {v : Value} {mt' : Obj → List (Addr × Obj)} {Q : Unit → Shared → Prop} (S : St G Z vs mt s) (hc : ∀ o', Chg d o o' mt (mt' o')) (hK : BytesKeys w rs o) (hz : rs.length ≤ sizeLine) (hn : b ∉ rs)
    (h : ∀ o' s', BytesKeys w (rs ++ [b]) o' → St G Z vs (mt' o') s' → Q () s') : wpAny (model P w) A (setItem (.ref d) (.bytes b.toArray t) v) Q E s := by
  obtain ⟨kvs, hD, rfl⟩ := hK
  have hd := (S.mu _ (hc o).mem).1
  refine wpAny_setItem_pairs (bytes_is b t) (Heap.dictOf_iff.mpr ⟨o, hd, hD⟩) (fun h' hd' hs => ?_) (by rw [List.length_map] at hz; exact hz)
  obtain ⟨o', ho', hD'⟩ := Heap.dictOf_iff.mp hd'
  refine h o' _ ⟨_, hD', ?_⟩ (S.chg (tk := s.toks + 1) (hc o') hs ho')
  unfold stored
  rw [if_neg]
  · rw [List.map_append]; rfl
  · intro e
    obtain ⟨x, hx, e⟩ := List.any_eq_true.mp e
    exact hn (List.mem_map.mpr ⟨x, hx, of_decide_eq_true e⟩)
end
structure AttrOk (w : World) (C : Addr) (name : Str) : Prop where
  hg : plainGet (KK w) C name = true
  hh : hasDictIn (KK w) C = true
  ha : ∃ attr, findIn (KK w) (.ref C) name = some attr ∧ noGet (KK w) attr = true
  hs : findIn (KK w) (.ref C) "__setattr__" = some (some (.builtin "object.__setattr__"))
  hp : plainOver (KK w) C = true
  ht : takerIn (KK w) C name = some none
structure MethOk (w : World) (C : Addr) (name : Str) (f : Addr) : Prop where
  hg : plainGet (KK w) C name = true
  hf : findIn (KK w) (.ref C) name = some (some (.ref f))
  ht : isFn (KK w) (.ref f) = true
structure NewOk (w : World) (C fI : Addr) : Prop where
  hm : makesIn (KK w) C = true
  hi : findIn (KK w) (.ref C) "__init__" = some (some (.ref fI))
  hf : isFn (KK w) (.ref fI) = true
section
variable {w : World} {A : Around} {env : Env} {G : Gh} {outer : List Env} {Z : Zt} {vs : List (Option Value)} {mt : List (Addr × Obj)} {s : Shared} {E : Value → Shared → Prop}
theorem A_get {x C dx : Addr} {od : Obj} {kvs : List (Str × Value)} {name : Str} {v : Value} {expr : Bool} {Q : Value → Shared → Prop} (ok : AttrOk w C name) (a : Act w A env G outer) (S : St G Z vs mt s)
    (hx : Z x (instObj C dx)) (hd : s.heap.get? dx = some od) (hD : DO kvs od) (hv : lk kvs name = some v) (hb : handedIn v = true)
    (h : ∀ s', St G Z vs mt s' → Q v s') : wpAny (model P w) A (getAttr (.ref x) name expr) Q E s :=
  let ⟨_, ha, hn⟩ := ok.ha
  R_get a S hx hd hD hv ok.hg ok.hh ha hn hb h
theorem A_set {x C dx : Addr} {od : Obj} {kvs kvs' : List (Str × Value)} {name : Str} {v : Value} {mt' : Obj → List (Addr × Obj)} {Q : Unit → Shared → Prop} (ok : AttrOk w C name) (a : Act w A env G outer) (S : St G Z vs mt s)
    (hx : Z x (instObj C dx)) (c : ∀ o', Chg dx od o' mt (mt' o')) (hD : DO kvs od) (hz : kvs.length ≤ 1000) (hk : sto kvs name v = kvs')
    (h : ∀ o' s', DO kvs' o' → St G Z vs (mt' o') s' → Q () s') : wpAny (model P w) A (setAttr (.ref x) name v) Q E s :=
  R_set a S (S.z _ _ hx) rfl rfl rfl c hD hz ok.hs ok.hp ok.ht ok.hh (hk ▸ h)
theorem A_meth {x C dx f : Addr} {od : Obj} {kvs : List (Str × Value)} {name : Str} {pl : Sem Bool} {Q : Value × List Value → Shared → Prop} (ok : MethOk w C name f) (a : Act w A env G outer) (S : St G Z vs mt s)
    (hx : Z x (instObj C dx)) (hd : s.heap.get? dx = some od) (hD : DO kvs od) (hv : lk kvs name = none) (h : Q (.ref f, [.ref x]) s) : wpAny (model P w) A (getMethod (.ref x) name pl) Q E s :=
  R_meth a S hx hd hD hv ok.hg ok.hf ok.ht h
theorem A_new {C fI : Addr} {args : List Value} {Q : Value → Shared → Prop} (ok : NewOk w C fI) (a : Act w A env G outer) (S : St G Z vs mt s) {n : Nat} (hr : Room A (n + 1))
    (h : ∀ A' x dx od s', Act w A' env G outer → Room A' n → DO [] od → dx ∉ G.ft → St G (fun b o => Z b o ∨ (b = x ∧ o = instObj C dx)) vs ((dx, od) :: mt) s' →
      codeAny (model P w) A' (.call (.ref fI) ⟨.ref x :: args, []⟩) (fun r s' => match r with | .ok (.ret v) => v = .none ∧ Q (.ref x) s' | .ok _ => False | .error e => E e s') s') :
    wpAny (model P w) A (call (.ref C) args) Q E s := R_new a S hr ok.hm ok.hi ok.hf h
end
theorem rd_cls (w : World) : hasDictIn (KK w) 323 = true ∧ findIn (KK w) (.ref 323) "__setattr__" = some (some (.builtin "object.__setattr__")) ∧ plainOver (KK w) 323 = true := ⟨by wtm_at "kis", by wtm_at "kis", by wtm_at "kis"⟩
theorem rd_octets (w : World) : AttrOk w 323 "octets" := ⟨by wtm_at "kis", (rd_cls w).1, ⟨none, by wtm_at "kis", rfl⟩, (rd_cls w).2.1, (rd_cls w).2.2, by wtm_at "kis"⟩
theorem rd_at (w : World) : AttrOk w 323 "at" := ⟨by wtm_at "kis", (rd_cls w).1, ⟨none, by wtm_at "kis", rfl⟩, (rd_cls w).2.1, (rd_cls w).2.2, by wtm_at "kis"⟩
theorem row_cls (w : World) : hasDictIn (KK w) 99 = true ∧ findIn (KK w) (.ref 99) "__setattr__" = some (some (.builtin "object.__setattr__")) ∧ plainOver (KK w) 99 = true := ⟨by wtm_at "kis", by wtm_at "kis", by wtm_at "kis"⟩
theorem row_runs (w : World) : AttrOk w 99 "runs" := ⟨by wtm_at "kis", (row_cls w).1, ⟨none, by wtm_at "kis", rfl⟩, (row_cls w).2.1, (row_cls w).2.2, by wtm_at "kis"⟩
theorem row_numbers (w : World) : AttrOk w 99 "numbers" := ⟨by wtm_at "kis", (row_cls w).1, ⟨none, by wtm_at "kis", rfl⟩, (row_cls w).2.1, (row_cls w).2.2, by wtm_at "kis"⟩
theorem trie_cls (w : World) : hasDictIn (KK w) 218 = true ∧ findIn (KK w) (.ref 218) "__setattr__" = some (some (.builtin "object.__setattr__")) ∧ plainOver (KK w) 218 = true := ⟨by wtm_at "kis", by wtm_at "kis", by wtm_at "kis"⟩
theorem trie_low_bits (w : World) : AttrOk w 218 "low_bits" := ⟨by wtm_at "kis", (trie_cls w).1, ⟨none, by wtm_at "kis", rfl⟩, (trie_cls w).2.1, (trie_cls w).2.2, by wtm_at "kis"⟩
theorem trie_mid_bits (w : World) : AttrOk w 218 "mid_bits" := ⟨by wtm_at "kis", (trie_cls w).1, ⟨none, by wtm_at "kis", rfl⟩, (trie_cls w).2.1, (trie_cls w).2.2, by wtm_at "kis"⟩
theorem trie_values (w : World) : AttrOk w 218 "values" := ⟨by wtm_at "kis", (trie_cls w).1, ⟨none, by wtm_at "kis", rfl⟩, (trie_cls w).2.1, (trie_cls w).2.2, by wtm_at "kis"⟩
theorem trie_lows (w : World) : AttrOk w 218 "lows" := ⟨by wtm_at "kis", (trie_cls w).1, ⟨none, by wtm_at "kis", rfl⟩, (trie_cls w).2.1, (trie_cls w).2.2, by wtm_at "kis"⟩
theorem trie_mids (w : World) : AttrOk w 218 "mids" := ⟨by wtm_at "kis", (trie_cls w).1, ⟨none, by wtm_at "kis", rfl⟩, (trie_cls w).2.1, (trie_cls w).2.2, by wtm_at "kis"⟩
theorem trie_top (w : World) : AttrOk w 218 "top" := ⟨by wtm_at "kis", (trie_cls w).1, ⟨none, by wtm_at "kis", rfl⟩, (trie_cls w).2.1, (trie_cls w).2.2, by wtm_at "kis"⟩
theorem rdM_number (w : World) : MethOk w 323 "number" 278 := ⟨by wtm_at "kis", by wtm_at "kis", by wtm_at "kis"⟩
theorem rdM_part (w : World) : MethOk w 323 "part" 285 := ⟨by wtm_at "kis", by wtm_at "kis", by wtm_at "kis"⟩
theorem rdM_row (w : World) : MethOk w 323 "row" 292 := ⟨by wtm_at "kis", by wtm_at "kis", by wtm_at "kis"⟩
theorem rdM_rows (w : World) : MethOk w 323 "rows" 299 := ⟨by wtm_at "kis", by wtm_at "kis", by wtm_at "kis"⟩
theorem rdM_values (w : World) : MethOk w 323 "values" 306 := ⟨by wtm_at "kis", by wtm_at "kis", by wtm_at "kis"⟩
theorem rdM_check_sum (w : World) : MethOk w 323 "check_sum" 313 := ⟨by wtm_at "kis", by wtm_at "kis", by wtm_at "kis"⟩
theorem rdM_table (w : World) : MethOk w 323 "table" 320 := ⟨by wtm_at "kis", by wtm_at "kis", by wtm_at "kis"⟩
theorem trieM_get (w : World) : MethOk w 218 "get" 191 := ⟨by wtm_at "kis", by wtm_at "kis", by wtm_at "kis"⟩
theorem trieM_blocks (w : World) : MethOk w 218 "blocks" 198 := ⟨by wtm_at "kis", by wtm_at "kis", by wtm_at "kis"⟩
theorem trieM_octets (w : World) : MethOk w 218 "octets" 205 := ⟨by wtm_at "kis", by wtm_at "kis", by wtm_at "kis"⟩
theorem rd_new (w : World) : NewOk w 323 271 := ⟨by wtm_at "kis", by wtm_at "kis", by wtm_at "kis"⟩
theorem row_new (w : World) : NewOk w 99 96 := ⟨by wtm_at "kis", by wtm_at "kis", by wtm_at "kis"⟩
theorem trie_new (w : World) : NewOk w 218 173 := ⟨by wtm_at "kis", by wtm_at "kis", by wtm_at "kis"⟩
open PySem
noncomputable def rdN (b : List UInt8) : Nat → Nat → Nat → Except Str (Nat × Nat)
  | 0, _, _ => .error "a number is too long"
  | k + 1, p, found => match b[p]? with
    | none => .error "a number breaks off"
    | some o =>
      if o.toNat < 128 then
        if o.toNat = 0 ∧ 0 < 4 - k then .error "a number has needless pieces" else .ok (found ||| ((o.toNat &&& 127) <<< (7 * (4 - k))), p + 1)
      else rdN b k (p + 1) (found ||| ((o.toNat &&& 127) <<< (7 * (4 - k))))
theorem rdN_ok {b : List UInt8} {k p f n q : Nat} (hk : k ≤ 5) (hf : f < 2 ^ (7 * (5 - k))) (h : rdN b k p f = .ok (n, q)) : n < 2 ^ 35 ∧ p < q ∧ q ≤ b.length := by
  induction k generalizing p f with
  | zero => cases h
  | succ k ih =>
    unfold rdN at h
    cases e : b[p]? with
    | none => rw [e] at h; cases h
    | some o =>
      rw [e] at h
      dsimp only at h
      have hp : p < b.length := (List.getElem?_eq_some_iff.mp e).1
      have h7 : (o.toNat &&& 127) < 2 ^ 7 := Nat.lt_of_le_of_lt Nat.and_le_right (by decide)
      have e5 : 4 - k + 1 = 5 - k := (Nat.succ_sub (Nat.le_of_lt_succ hk)).symm
      have hs : (o.toNat &&& 127) <<< (7 * (4 - k)) < 2 ^ (7 * (5 - k)) := by
        rw [Nat.shiftLeft_eq, show 7 * (5 - k) = 7 + 7 * (4 - k) by rw [← e5]; exact Nat.add_comm _ 7, Nat.pow_add]
        exact Nat.mul_lt_mul_of_pos_right h7 (Nat.pow_pos (by decide))
      have hf' : f ||| (o.toNat &&& 127) <<< (7 * (4 - k)) < 2 ^ (7 * (5 - k)) :=
        Nat.or_lt_two_pow (Nat.lt_of_lt_of_le hf (Nat.pow_le_pow_right (by decide) (Nat.mul_le_mul_left 7 (Nat.sub_le_sub_left (Nat.le_succ k) 5)))) hs
      split at h
      · split at h
        · cases h
        · cases h
          exact ⟨Nat.lt_of_lt_of_le hf' (Nat.pow_le_pow_right (by decide) (Nat.mul_le_mul_left 7 (Nat.sub_le 5 k))), Nat.lt_succ_self _, hp⟩
      · have := ih (Nat.le_of_succ_le hk) hf' h
        exact ⟨this.1, Nat.lt_of_succ_lt this.2.1, this.2.2⟩
noncomputable def rdNum (b : List UInt8) (p : Nat) : Except Str (Nat × Nat) := rdN b 5 p 0
theorem rdNum_ok {b : List UInt8} {p n q : Nat} (h : rdNum b p = .ok (n, q)) : n < 2 ^ 35 ∧ p < q ∧ q ≤ b.length := rdN_ok (Nat.le_refl _) (by decide) h
noncomputable def rdPart (b : List UInt8) (p many : Nat) : Except Str (List UInt8 × Nat) := if p + many > b.length then .error "octets break off" else .ok ((b.drop p).take many, p + many)
noncomputable def rdRuns (b : List UInt8) (size below : Nat) : Nat → Nat → List (Nat × Nat) → Nat → Except Str (List (Nat × Nat) × Nat × Nat)
  | 0, p, runs, filled => .ok (runs, p, filled)
  | k + 1, p, runs, filled => match rdNum b p with
    | .error e => .error e
    | .ok (many, p1) => match rdNum b p1 with
      | .error e => .error e
      | .ok (number, p2) =>
        if many = 0 ∨ filled + many > size then .error "a row has another size"
        else if number ≥ below then .error "a number of nothing"
        else if runs.getLast?.map (·.2) = some number then .error "two runs are one"
        else rdRuns b size below k p2 (runs ++ [(many, number)]) (filled + many)
theorem rdRuns_ok {b : List UInt8} {size below : Nat} {k p : Nat} {runs : List (Nat × Nat)} {filled : Nat} {r : List (Nat × Nat)} {q f : Nat} (h1 : runs.length ≤ filled) (h2 : filled ≤ size) (hp : p ≤ b.length) (h : rdRuns b size below k p runs filled = .ok (r, q, f)) : r.length ≤ f ∧ f ≤ size ∧ p ≤ q ∧ q ≤ b.length := by
  induction k generalizing p runs filled with
  | zero => cases h; exact ⟨h1, h2, Nat.le_refl _, hp⟩
  | succ k ih =>
    unfold rdRuns at h
    cases e1 : rdNum b p with
    | error w => rw [e1] at h; cases h
    | ok x =>
      obtain ⟨many, p1⟩ := x
      rw [e1] at h
      dsimp only at h
      cases e2 : rdNum b p1 with
      | error w => rw [e2] at h; cases h
      | ok y =>
        obtain ⟨number, p2⟩ := y
        rw [e2] at h
        dsimp only at h
        split at h
        · cases h
        · rename_i hm
          rw [not_or] at hm
          split at h
          · cases h
          · split at h
            · cases h
            · have k1 := rdNum_ok e1
              have k2 := rdNum_ok e2
              have := ih (by rw [List.length_append, List.length_singleton]; exact Nat.add_le_add h1 (Nat.pos_of_ne_zero hm.1)) (Nat.le_of_not_lt hm.2) k2.2.2 h
              exact ⟨this.1, this.2.1, Nat.le_trans (Nat.le_of_lt (Nat.lt_trans k1.2.1 k2.2.1)) this.2.2.1, this.2.2.2⟩
noncomputable def rdRow (b : List UInt8) (size below p : Nat) : Except Str (List (Nat × Nat) × Nat) := match rdNum b p with
  | .error e => .error e
  | .ok (n, p1) => match rdRuns b size below n p1 [] 0 with
    | .error e => .error e
    | .ok (runs, p2, filled) => if filled < size then .error "a row has another size" else .ok (runs, p2)
theorem rdRow_ok {b : List UInt8} {size below p q : Nat} {r : List (Nat × Nat)} (h : rdRow b size below p = .ok (r, q)) : r.length ≤ size ∧ p < q ∧ q ≤ b.length := by
  unfold rdRow at h
  cases e1 : rdNum b p with
  | error w => rw [e1] at h; cases h
  | ok x =>
    obtain ⟨n, p1⟩ := x
    rw [e1] at h
    dsimp only at h
    have k1 := rdNum_ok e1
    cases e2 : rdRuns b size below n p1 [] 0 with
    | error w => rw [e2] at h; cases h
    | ok y =>
      obtain ⟨runs, p2, f⟩ := y
      rw [e2] at h
      dsimp only at h
      have k2 := rdRuns_ok (Nat.le_refl _) (Nat.zero_le _) k1.2.2 e2
      split at h
      · cases h
      · cases h; exact ⟨Nat.le_trans k2.1 k2.2.1, Nat.lt_of_lt_of_le k1.2.1 k2.2.2.1, k2.2.2.2⟩
noncomputable def rdRows (b : List UInt8) (size below : Nat) : Nat → Nat → List (List (Nat × Nat)) → Except Str (List (List (Nat × Nat)) × Nat)
  | 0, p, found => .ok (found, p)
  | k + 1, p, found => match rdRow b size below p with
    | .error e => .error e
    | .ok (row, p1) => if row ∈ found then .error "a block stands twice" else rdRows b size below k p1 (found ++ [row])
noncomputable def rdStage (b : List UInt8) (size below most p : Nat) : Except Str (List (List (Nat × Nat)) × Nat) := match rdNum b p with
  | .error e => .error e
  | .ok (many, p1) => if many > most then .error "more blocks than places" else rdRows b size below many p1 []
noncomputable def rdVals (b : List UInt8) : Nat → Nat → List (List UInt8) → Except Str (List (List UInt8) × Nat)
  | 0, p, found => .ok (found, p)
  | k + 1, p, found => match rdNum b p with
    | .error e => .error e
    | .ok (n, p1) => match rdPart b p1 n with
      | .error e => .error e
      | .ok (part, p2) => if part ∈ found then .error "a value stands twice" else rdVals b k p2 (found ++ [part])
noncomputable def rdValues (b : List UInt8) (p : Nat) : Except Str (List (List UInt8) × Nat) := match rdNum b p with
  | .error e => .error e
  | .ok (n, p1) => rdVals b n p1 []
theorem rdRows_ok {b : List UInt8} {size below : Nat} {k p : Nat} {found r : List (List (Nat × Nat))} {q : Nat} (hp : p ≤ b.length) (h : rdRows b size below k p found = .ok (r, q)) : r.length = found.length + k ∧ p ≤ q ∧ q ≤ b.length := by
  induction k generalizing p found with
  | zero => cases h; exact ⟨rfl, Nat.le_refl _, hp⟩
  | succ k ih =>
    unfold rdRows at h
    cases e1 : rdRow b size below p with
    | error w => rw [e1] at h; cases h
    | ok x =>
      obtain ⟨row, p1⟩ := x
      rw [e1] at h
      dsimp only at h
      split at h
      · cases h
      · have k1 := rdRow_ok e1
        have := ih k1.2.2 h
        rw [List.length_append, List.length_singleton] at this
        exact ⟨this.1.trans (Nat.add_right_comm ..), Nat.le_trans (Nat.le_of_lt k1.2.1) this.2.1, this.2.2⟩
theorem rdStage_ok {b : List UInt8} {size below most p q : Nat} {r : List (List (Nat × Nat))} (h : rdStage b size below most p = .ok (r, q)) : r.length ≤ most ∧ p < q ∧ q ≤ b.length := by
  unfold rdStage at h
  cases e1 : rdNum b p with
  | error w => rw [e1] at h; cases h
  | ok x =>
    obtain ⟨n, p1⟩ := x
    rw [e1] at h
    dsimp only at h
    split at h
    · cases h
    · rename_i hm
      have k1 := rdNum_ok e1
      have := rdRows_ok k1.2.2 h
      rw [List.length_nil, Nat.zero_add] at this
      exact ⟨this.1 ▸ Nat.le_of_not_lt hm, Nat.lt_of_lt_of_le k1.2.1 this.2.1, this.2.2⟩
theorem rdPart_ok {b : List UInt8} {p n q : Nat} {x : List UInt8} (h : rdPart b p n = .ok (x, q)) : p ≤ q ∧ q ≤ b.length := by
  unfold rdPart at h
  split at h
  · cases h
  · rename_i hm
    cases h; exact ⟨Nat.le_add_right .., Nat.le_of_not_lt hm⟩
theorem rdVals_ok {b : List UInt8} {k p : Nat} {found r : List (List UInt8)} {q : Nat} (h1 : found.length ≤ p) (hp : p ≤ b.length) (h : rdVals b k p found = .ok (r, q)) : r.length ≤ q ∧ p ≤ q ∧ q ≤ b.length := by
  induction k generalizing p found with
  | zero => cases h; exact ⟨h1, Nat.le_refl _, hp⟩
  | succ k ih =>
    unfold rdVals at h
    cases e1 : rdNum b p with
    | error w => rw [e1] at h; cases h
    | ok x =>
      obtain ⟨n, p1⟩ := x
      rw [e1] at h
      dsimp only at h
      have k1 := rdNum_ok e1
      cases e2 : rdPart b p1 n with
      | error w => rw [e2] at h; cases h
      | ok y =>
        obtain ⟨part, p2⟩ := y
        rw [e2] at h
        dsimp only at h
        have k2 := rdPart_ok e2
        split at h
        · cases h
        · have hq := Nat.lt_of_lt_of_le k1.2.1 k2.1
          have := ih (by rw [List.length_append, List.length_singleton]; exact Nat.le_trans (Nat.succ_le_succ h1) hq) k2.2 h
          exact ⟨this.1, Nat.le_trans (Nat.le_of_lt hq) this.2.1, this.2.2⟩
theorem rdValues_ok {b : List UInt8} {p q : Nat} {r : List (List UInt8)} (h : rdValues b p = .ok (r, q)) : r.length ≤ q ∧ p < q ∧ q ≤ b.length := by
  unfold rdValues at h
  cases e1 : rdNum b p with
  | error w => rw [e1] at h; cases h
  | ok x =>
    obtain ⟨n, p1⟩ := x
    rw [e1] at h
    dsimp only at h
    have k1 := rdNum_ok e1
    have := rdVals_ok (Nat.zero_le _) k1.2.2 h
    exact ⟨this.1, Nat.lt_of_lt_of_le k1.2.1 this.2.1, this.2.2⟩
noncomputable def markB : List UInt8 := [85, 84, 82, 73]
section
variable {w : World} {A : Around} {s : Shared} {env : Env}
theorem GX_nil {Q : Flow → Shared → Prop} (h : Q .next s) : WG (model P w) A (execs [] env) Q s := fun _ _ _ _ => h
noncomputable def NxG (w : World) (A : Around) (env : Env) (rest : List Stmt) (Q : Flow → Shared → Prop) (f : Flow) (s : Shared) : Prop := match f with
  | .next => WG (model P w) A (execs rest env) Q s
  | f => Q f s
theorem NxG.next {rest : List Stmt} {Q : Flow → Shared → Prop} (h : WG (model P w) A (execs rest env) Q s) : NxG w A env rest Q .next s := h
theorem GX_cons {st : Stmt} {rest : List Stmt} {Q : Flow → Shared → Prop} (h : WG (model P w) A (exec st env) (NxG w A env rest Q) s) : WG (model P w) A (execs (st :: rest) env) Q s := fun Γ p hΓ hN => by
  rw [execs_cons, Sem.wp_bind']
  refine Sem.wp_mono _ Γ _ (fun f p' s' h' => ?_) (fun _ _ _ h' => h') _ _ (h Γ p hΓ hN)
  cases f <;> first | exact h' Γ p' hΓ hN | exact h'
theorem GX_ret {e : PySem.Expr} {pos : Pos} {rest : List Stmt} {Q : Flow → Shared → Prop} (h : WG (model P w) A (eval e env) (fun v s' => Q (.ret v) s') s) : WG (model P w) A (execs (.Return (some e) pos :: rest) env) Q s := by
  refine GX_cons ?_
  rw [exec_Return_some]
  exact .bind (.standAt (.bind (h.mono fun v s' z => .pure z)))
theorem GX_if {test : PySem.Expr} {body orelse : List Stmt} {pos : Pos} {rest : List Stmt} {Q : Flow → Shared → Prop}
    (h : WG (model P w) A (isTrue test env (eval test env)) (fun b s' => if b = true then WG (model P w) A (execs body env) (NxG w A env rest Q) s' else WG (model P w) A (execs orelse env) (NxG w A env rest Q) s') s) :
    WG (model P w) A (execs (.If test body orelse pos :: rest) env) Q s := by
  refine GX_cons ?_
  rw [exec_If]
  refine .bind (.standAt (.bind (h.mono fun b s' z => ?_)))
  cases b <;> exact z
theorem GX_expr {e : PySem.Expr} {pos : Pos} {rest : List Stmt} {Q : Flow → Shared → Prop} (hi : interactive env = false) (hs : swapsWith e none pos.line env = pure false)
    (h : WG (model P w) A (eval e env) (fun v s' => v = .none ∧ WG (model P w) A (execs rest env) Q s') s) : WG (model P w) A (execs (.Expr e pos :: rest) env) Q s := by
  refine GX_cons ?_
  rw [exec_Expr env e pos hi hs]
  refine .bind (.standAt (.bind (h.mono fun v s' z => ?_)))
  obtain ⟨rfl, z⟩ := z
  rw [dropValue_plain (fun a e => by cases e)]
  exact .pure z
theorem GX_assign {x : Str} {xp pos : Pos} {value : PySem.Expr} {rest : List Stmt} {Q : Flow → Shared → Prop} (hs : swapsWith value (some (.Name x xp)) pos.line env = pure false)
    (h : WG (model P w) A (eval value env) (fun v s₁ => wpAny (model P w) A (storeName env x v) (fun _ s₂ => WG (model P w) A (execs rest env) Q s₂) (fun _ _ => False) s₁) s) : WG (model P w) A (execs (.Assign [.Name x xp] value pos :: rest) env) Q s := by
  refine GX_cons ?_
  rw [exec_Assign_Name env x xp value pos hs]
  refine .bind (.standAt (.bind (h.mono fun v s' z => .bind (.standAt ?_))))
  exact .first (wpAny_bindName (wpAny_mono z (fun _ s2 y => .pure y) fun _ _ e => e))
theorem GX_any {st : Stmt} {rest : List Stmt} {Q : Flow → Shared → Prop} (h : wpAny (model P w) A (execs [st] env) (NxG w A env rest Q) (fun _ _ => False) s) : WG (model P w) A (execs (st :: rest) env) Q s := by
  refine GX_cons ?_
  intro Γ p hΓ hN
  have h' := h Γ p hΓ
  rw [execs_cons, Sem.wp_bind'] at h'
  refine Sem.wp_mono _ Γ _ (fun f p' s' z => ?_) (fun _ _ _ z => z) _ _ h'
  cases f <;> exact z
theorem WG.noted {α : Type} {m : Sem α} {Q : α → Shared → Prop} (h : WG (model P w) A m Q s) : WG (model P w) A (m.onRaise fun x => do noteFrame x env; theTreesLotGoes x) Q s := .onRaise h
noncomputable def LpG (J K : Shared → Prop) (Q : Flow → Shared → Prop) (f : Flow) (s : Shared) : Prop := match f with
  | .next => J s
  | .cont => J s
  | .brk => K s
  | .ret v => Q (.ret v) s
theorem A_mark (A : Around) : A.mark none = A := by obtain ⟨hd, d, fr, gs, u⟩ := A; rfl
theorem GX_while {test : PySem.Expr} {body : List Stmt} {pos : Pos} {rest : List Stmt} {Q : Flow → Shared → Prop} (I : Nat → Shared → Prop) (n : Nat) (h0 : I n s)
    (turn : ∀ n s, I n s → wpAny (model P w) A (isTrue test env (eval test env)) (fun b s' => if b = true then WG (model P w) A (execs body env) (LpG (fun s'' => ∃ m, m < n ∧ I m s'') (fun s'' => WG (model P w) A (execs rest env) Q s'') Q) s'
      else WG (model P w) A (execs rest env) Q s') (fun _ _ => False) s) :
    WG (model P w) A (execs (.While test body [] pos :: rest) env) Q s := by
  refine GX_cons ?_
  rw [exec_While]
  refine .bind (.standAt (.runOwn ?_))
  rw [A_mark]
  refine CG.loop rfl rfl I (fun n s hI => ?_) n h0
  show WG _ A ((whileTurn test body [] env).onRaise (fun x => do noteFrame x env; theTreesLotGoes x)) _ s
  refine .noted ?_
  simp only [whileTurn]
  refine .first (wpAny_mono (turn n s hI) (fun b s₂ h₂ => ?_) fun _ _ e => e)
  cases b with
  | false =>
    simp only [Bool.false_eq_true, if_false] at h₂ ⊢
    exact .bind (GX_nil (.pure h₂))
  | true =>
    simp only [if_true] at h₂ ⊢
    refine .bind (h₂.mono fun f s₃ h₃ => ?_)
    cases f with
    | next => exact .pure (.inl ⟨rfl, h₃⟩)
    | cont => exact .pure (.inl ⟨rfl, h₃⟩)
    | brk => exact .pure h₃
    | ret v => exact .pure h₃
theorem CG.block {stmts : List Stmt} {R : Result → Shared → Prop} (h : WG (model P w) A (execs stmts env) (fun f s' => R (.ok f) s') s) : CG (model P w) A (.block stmts env) R s := by
  refine CG.tree rfl ?_
  show WG _ _ (do return Fin.done (← (execs stmts env).onRaise (fun x => do noteFrame x env; theTreesLotGoes x))) _ s
  exact .bind (.noted (h.mono fun f s' h' => .pure h'))
theorem CG.for_ {R : Result → Shared → Prop} {target : PySem.Expr} {it : Value} {body : List Stmt} (I : Nat → Shared → Prop)
    (turn : ∀ n s, I n s → wpAny (model P w) A (pyNext it) (fun r s₁ => match r with
      | none => R (.ok .next) s₁
      | some v => wpAny (model P w) A (letOwnedTupleGo target it v) (fun _ s₁' =>
          wpAny (model P w) A (assign target env v) (fun _ s₂ => WG (model P w) A (execs body env) (fun f s₃ => match f with
            | .next | .cont => ∃ m, m < n ∧ I m s₃
            | .brk => R (.ok .next) s₃
            | .ret v => R (.ok (.ret v)) s₃) s₂) (fun _ _ => False) s₁') (fun _ _ => False) s₁) (fun _ _ => False) s)
    (n : Nat) (h : I n s) : CG (model P w) A (.forLoop target it body [] env) R s := by
  refine CG.loop rfl rfl I (fun n s hI => ?_) n h
  show WG _ A ((forTurn target it body [] env).onRaise (fun x => do noteFrame x env; theTreesLotGoes x)) _ s
  refine .noted ?_
  simp only [forTurn]
  refine .bind (.standAt (.bind (.onRaise (.any (wpAny_mono (turn n s hI) (fun r s₁ h₁ => ?_) fun _ _ e => e)))))
  cases r with
  | none => exact .pure (.inr ⟨rfl, .block (GX_nil h₁)⟩)
  | some v =>
    refine .first (wpAny_mono h₁ (fun _ s₁' h₁' => ?_) fun _ _ e => e)
    refine .first (wpAny_mono h₁' (fun _ s₂ h₂ => .bind (h₂.mono fun f s₃ h₃ => ?_)) fun _ _ e => e)
    cases f with
    | next => exact .pure (.inl ⟨rfl, h₃⟩)
    | cont => exact .pure (.inl ⟨rfl, h₃⟩)
    | brk => exact .pure h₃
    | ret v => exact .pure h₃
end
section
variable {w : World} {A : Around} {env : Env} {G : Gh} {outer : List Env} {Z : Zt} {vs : List (Option Value)} {mt : List (Addr × Obj)} {s : Shared}
inductive LoopG (w : World) (A : Around) (env : Env) (G : Gh) (target : PySem.Expr) (body rest : List Stmt) (Q : Flow → Shared → Prop) (itv : Value) (s : Shared) : Prop
  | mk (it : Addr) (o : Obj) (n : Nat) (IA : Nat → Obj → Prop) (V : Nat → Value → Prop) (Z₁ : Zt) (vs₁ : List (Option Value)) (mt₁ : List (Addr × Obj)) (J : Nat → Zt → List (Option Value) → List (Addr × Obj) → Prop)
    (e : itv = .ref it) (st : Steps w A G Z₁ it n IA V) (h0 : IA 0 o) (S : St G Z₁ vs₁ ((it, o) :: mt₁) s) (hJ : J 0 Z₁ vs₁ mt₁)
    (turn : ∀ i v Z vs mt o s, i < n → V i v → (∀ a x, Z₁ a x → Z a x) → J i Z vs mt → St G Z vs ((it, o) :: mt) s →
      wpAny (model P w) A (assign target env v) (fun _ s' => WG (model P w) A (execs body env) (LpG (Turn G it o Z₁ J i) (fun s'' => WG (model P w) A (execs rest env) Q s'') Q) s') (fun _ _ => False) s)
    (after : ∀ Z vs mt s, (∀ a x, Z₁ a x → Z a x) → J n Z vs mt → St G Z vs mt s → WG (model P w) A (execs rest env) Q s) : LoopG w A env G target body rest Q itv s
theorem GX_for {target iter : PySem.Expr} {body : List Stmt} {pos : Pos} {rest : List Stmt} {Q : Flow → Shared → Prop} (a : Act w A env G outer) (hs : ∀ x, foldedSetIterable iter env x = pure x)
    (h : wpAny (model P w) A (eval iter env) (fun x s₁ => wpAny (model P w) A (pyIter x) (LoopG w A env G target body rest Q) (fun _ _ => False) s₁) (fun _ _ => False) s) :
    WG (model P w) A (execs (.For target iter body [] pos :: rest) env) Q s := by
  refine GX_cons ?_
  rw [exec_For]
  refine .bind (.standAt (.first (wpAny_mono h (fun x s₁ h₁ => ?_) fun _ _ e => e)))
  rw [hs x]
  refine .bind (.pure (.bind (.standAt (.bind (.holding (.any (wpAny_mono h₁ (fun itv s₂ h₂ => ?_) fun _ _ e => e)))))))
  obtain ⟨it, o, n, IA, V, Z₁, vs₁, mt₁, J, rfl, st, h0, S, hJ, turn, after⟩ := h₂
  refine .runOwn ?_
  rw [A_mark]
  refine CG.for_ (fun k s => ∃ i Z vs mt o, k = n - i ∧ i ≤ n ∧ IA i o ∧ (∀ a x, Z₁ a x → Z a x) ∧ J i Z vs mt ∧ St G Z vs ((it, o) :: mt) s) (fun k s hI => ?_) n ⟨0, Z₁, vs₁, mt₁, o, rfl, Nat.zero_le _, h0, fun _ _ q => q, hJ, S⟩
  obtain ⟨i, Z, vs, mt, o, rfl, hi, hA, hz, hJ, S⟩ := hI
  rcases Nat.lt_or_ge i n with lt | ge
  · refine st.step i lt Z vs mt o s _ _ hz hA S fun o' v s' hA' hV S' => ?_
    obtain ⟨T, hT, hq⟩ := st.quiet _ _ hA'
    refine go_quiet (S'.mu _ (.head _)).1 hT hq ?_
    refine wpAny_mono (turn i v Z vs mt o' s' lt hV hz hJ S') (fun _ s'' z => z.mono fun f s3 y => ?_) fun _ _ e => e
    cases f with
    | next => obtain ⟨S3, hz3, J3⟩ := y; exact ⟨n - (i + 1), Nat.sub_lt_sub_left lt (Nat.lt_succ_self i), i + 1, _, _, _, o', rfl, lt, hA', hz3, J3, S3⟩
    | cont => obtain ⟨S3, hz3, J3⟩ := y; exact ⟨n - (i + 1), Nat.sub_lt_sub_left lt (Nat.lt_succ_self i), i + 1, _, _, _, o', rfl, lt, hA', hz3, J3, S3⟩
    | brk => exact y
    | ret v => exact y
  · obtain rfl : i = n := Nat.le_antisymm hi ge
    refine st.stop Z vs mt o s _ _ hz hA S fun s' S' => ?_
    exact after Z vs mt s' hz hJ S'
end
section
variable {w : World} {A : Around} {s : Shared} {env : Env} {R : Result → Shared → Prop}
theorem CG.func {body : List Stmt} (h : WG (model P w) (A.deeper env) (execs body env) (fun f s' => R (.ok (.ret (match f with | .ret v => v | _ => .none))) s') s) : CG (model P w) A (.func body env) R s := by
  refine CG.tree rfl ?_
  show WG _ (A.deeper env) (do PySem.point; match ← (execs body env).onRaise (leaving env) with | .ret v => ret v | _ => ret .none) _ s
  refine .bind (.point (.bind (.onRaise (h.mono fun f s' h' => ?_))))
  cases f <;> exact .pure h'
theorem CG.call_function {a : Addr} {args : Args} {o : Obj} {fd : FuncData} {body : List Stmt} (hroom : A.depth < recursionLimit)
    (ho : s.heap.get? a = some o)
    (hd' : o.data = .func fd) (hco : fd.scope.isCoroutine = false) (hgen : fd.scope.isGenerator = false) (hbody : fd.body = .stmts body) (hcd : s.heap.CodeRec fd.code fd.qualname)
    (h : wpAny (model P w) A.in1 (bindArgs fd args) (fun binds s₁ =>
      wpAny (model P w) A.in1 (newFunctionEnv fd.scope fd.globals fd.closure binds (fd.qualname ++ ".<locals>.") (some a) fd.code none fd.builtins)
        (fun env s₂ => s₂.heap.NoLimit ∧ CG (model P w) A (.func body env) R s₂) (fun _ _ => False) s₁) (fun _ _ => False) s) :
    CG (model P w) A (.call (.ref a) args) R s := by
  refine CG.tree rfl (.any ?_)
  show wpAny _ A.in1 (callAny (.ref a) args) _ _ s
  simp only [callAny]
  refine wpAny_bind (wpAny_load ho ?_)
  obtain ⟨c, oc, vs, tq, hc, hoc, hdc, hq⟩ := hcd
  simp only [hd', callFunction, hco, hgen, hbody, hc]
  rw [hc] at h
  refine wpAny_bind (m := field (.ref c) 1) (wpAny_field hoc hdc hq (wpAny_bind (wpAny_pure ?_)))
  exact wpAny_bind (wpAny_mono h (fun binds s₁ h₁ => wpAny_bind (wpAny_mono h₁ (fun env s₂ h₂ => wpAny_bind (wpAny_enterFrame h₂.1 hroom
    (wpAny_pure (And.intro rfl h₂.2)))) fun _ _ h' => h')) fun _ _ h' => h')
theorem CG.call_def {a : Addr} {o : Obj} {fd : FuncData} {body : List Stmt} {args : Args} {binds : List (Str × Value)}
    (hroom : A.depth < recursionLimit) (ho : s.heap.get? a = some o) (hdata : o.data = .func fd) (hlim : s.heap.NoLimit) (hcd : s.heap.CodeRec fd.code fd.qualname)
    (hbody : fd.body = .stmts body) (hbind : BindsTo s fd args binds)
    (hcell : ∀ x ∈ fd.scope.names, x.2 ≠ .cell) (hloc : ∀ x ∈ binds, fd.scope.names.lookup x.1 = some .local)
    (h : ∀ h₀, h₀.Ns s.heap.objs.size (fun x => binds.reverse.lookup x) → (∀ b o, s.heap.get? b = some o → h₀.get? b = some o) →
      WG (model P w) (A.deeper (callEnv fd s.heap.objs.size a)) (execs body (callEnv fd s.heap.objs.size a)) (fun f s' => R (.ok (.ret (match f with | .ret v => v | _ => .none))) s')
        { s with heap := h₀, toks := s.toks + binds.length })
    (hco : fd.scope.isCoroutine = false := by rfl) (hgen : fd.scope.isGenerator = false := by rfl) (hk : fd.scope.kind = .function := by rfl) :
    CG (model P w) A (.call (.ref a) args) R s := by
  refine CG.call_function hroom ho hdata hco hgen hbody hcd (hbind _ _ _ _ ?_)
  refine wpAny_newFunctionEnv hcell hloc (fun h₀ hns₀ hsb₀ => ⟨hlim.fresh _ hsb₀, CG.func (h h₀ hns₀ fun b o e => ?_)⟩) hk
  exact hsb₀.extBut b o (Nat.ne_of_lt (Heap.lt_size e)) (Heap.get?_push_of_some _ e)
end
section
variable {w : World} {A : Around} {env : Env} {G : Gh} {outer : List Env} {Z : Zt} {vs : List (Option Value)} {foot rest : List (Addr × Obj)} {s : Shared}
theorem entered {f : Addr} {fd : FuncData} {binds : List (Str × Value)} {nm gn : List Str} (a : Act w A env G outer) (S : St G Z vs (foot ++ rest) s) (sc : scopeOk fd binds nm gn = true) {vs₁ : List (Option Value)} (hvs : nm.map (fun x => binds.reverse.lookup x) = vs₁)
    {h₁ : Heap} (hns : h₁.Ns s.heap.objs.size (fun x => binds.reverse.lookup x)) (hk : ∀ b o, s.heap.get? b = some o → h₁.get? b = some o) :
    Act w (A.deeper (callEnv fd s.heap.objs.size f)) (callEnv fd s.heap.objs.size f) (mkG G.B s foot (G.L :: G.fr) Z nm gn) (env :: outer) ∧ St (mkG G.B s foot (G.L :: G.fr) Z nm gn) Z vs₁ foot { s with heap := h₁, toks := s.toks + binds.length } := by
  simp only [scopeOk, Bool.and_eq_true, Bool.not_eq_true', beq_iff_eq, List.all_eq_true, decide_eq_true_eq, bne_iff_ne, List.isEmpty_iff] at sc
  obtain ⟨⟨⟨⟨⟨⟨⟨⟨⟨⟨⟨⟨⟨k1, k2⟩, k3⟩, k4⟩, k5⟩, k6⟩, k7⟩, k8⟩, k9⟩, k10⟩, k11⟩, k12⟩, k13⟩, k14⟩ := sc
  generalize hA' : A.deeper (callEnv fd s.heap.objs.size f) = A'
  generalize he' : callEnv fd s.heap.objs.size f = env'
  have hfr : A'.frames = some (env' :: env :: outer) := by rw [← hA', ← he']; show A.frames.map _ = _; rw [a.frs]; rfl
  have act : Act w A' env' (mkG G.B s foot (G.L :: G.fr) Z nm gn) (env :: outer) := by
    refine ⟨?_, ?_, ?_, ?_, ?_, ?_, ?_, k8, ⟨?_, ?_⟩, hfr, ?_, a.kin, a.top, fun b o e => S.zs b o (a.zb b o e), ?_, a.below S, ?_⟩
    · rw [← he']; rfl
    · rw [← he']; rfl
    · rw [← he']; exact k11
    · rw [← he']; exact k12
    · rw [← he']; exact k1
    · rw [← he']; exact k6
    · rw [← he']; exact k7
    · intro q; rw [List.contains_iff_mem.mpr q] at k9; cases k9
    · intro q; rw [List.contains_iff_mem.mpr q] at k10; cases k10
    · rw [← hA']; exact a.hnd
    · rw [List.filterMap_cons, a.frm, a.out]
    · intro b hb
      obtain ⟨p, hp, rfl⟩ := List.mem_map.mp hb
      show (s.heap.get? p.1).isSome = true
      rw [(S.mu p (List.mem_append_left _ hp)).1]; rfl
  have szn : s.heap.get? s.heap.objs.size = none := by
    cases q : s.heap.get? s.heap.objs.size with
    | none => rfl
    | some o => exact absurd (Heap.lt_size q) (Nat.lt_irrefl _)
  have st : St (mkG G.B s foot (G.L :: G.fr) Z nm gn) Z (nm.map (fun x => binds.reverse.lookup x)) foot { s with heap := h₁, toks := s.toks + binds.length } := by
    refine ⟨?_, by rw [List.length_map], szn, fun b o e _ _ => hk b o e, fun b o e _ => ⟨o.slots, hk b o e⟩, fun b o e => ?_, fun b o za => hk b o (S.z b o za), fun _ _ q => q, fun _ _ q => .inl q, fun o za => ?_, fun b o za q => ?_, fun p hp => ?_, ?_, rfl, rfl, rfl⟩
    · have e : (fun x => binds.reverse.lookup x) = look nm (nm.map (fun x => binds.reverse.lookup x)) := by
        funext x
        rw [look_vals]
        split
        · rfl
        · rename_i hx
          cases q : List.lookup x binds.reverse with
          | none => rfl
          | some v =>
            exfalso
            have : ∃ y ∈ binds.reverse, y.1 = x := by
              have := List.lookup_eq_some_iff.mp q
              obtain ⟨l₁, l₂, e, _⟩ := this
              exact ⟨(x, v), by rw [e]; simp, rfl⟩
            obtain ⟨y, hy, rfl⟩ := this
            have := k14 y (List.mem_reverse.mp hy)
            exact hx (List.contains_iff_mem.mp this)
      rw [← e]; exact hns
    · show (h₁.get? b).isSome = true
      rw [hk b o e]; rfl
    · have := S.z _ _ za; rw [szn] at this; cases this
    · rcases List.mem_cons.mp q with rfl | q
      · exact S.zL _ za
      · exact S.zF _ _ za q
    · have M := S.mu p (List.mem_append_left _ hp)
      refine ⟨hk _ _ M.1, fun q => ?_, fun q => ?_, .inl (List.mem_map_of_mem hp), M.2.2.2.2⟩
      · have := M.1; rw [show p.1 = s.heap.objs.size from q, szn] at this; cases this
      · rcases List.mem_cons.mp q with q | q
        · exact M.2.1 q
        · exact M.2.2.1 q
    · have nd := S.nd
      rw [List.map_append, List.nodup_append] at nd
      exact nd.1
  exact ⟨act, hvs ▸ st⟩
theorem callG {f : Addr} {ob : Obj} {fd : FuncData} {body : List Stmt} {binds : List (Str × Value)} {pos : List Value} {nm gn : List Str} {R : Result → Shared → Prop}
    (a : Act w A env G outer) (S : St G Z vs (foot ++ rest) s) (hdep : A.depth < recursionLimit)
    (ho : (KK w).lookup f = some ob) (hd : ob.data = .func fd) (hb : fd.body = .stmts body) (hcd : codeIn (KK w) fd.code fd.qualname = true)
    (hbind : bindArgs fd ⟨pos, []⟩ = pure binds) (sc : scopeOk fd binds nm gn = true) {vs₁ : List (Option Value)} (hvs : nm.map (fun x => binds.reverse.lookup x) = vs₁)
    (h : ∀ A' env' G' s', A'.depth = A.depth + 1 → A'.units = A.units + 3 → G' = mkG G.B s foot (G.L :: G.fr) Z nm gn → G'.nm = nm → G'.gn = gn → Act w A' env' G' (env :: outer) → St G' Z vs₁ foot s' →
      WG (model P w) A' (execs body env') (Back G G' vs rest fun v s'' => R (.ok (.ret v)) s'') s') :
    CG (model P w) A (.call (.ref f) ⟨pos, []⟩) R s := by
  have sc' := sc
  simp only [scopeOk, Bool.and_eq_true, Bool.not_eq_true', beq_iff_eq, List.all_eq_true, decide_eq_true_eq, bne_iff_ne, List.isEmpty_iff] at sc'
  obtain ⟨⟨⟨⟨⟨⟨⟨⟨⟨⟨⟨⟨⟨k1, k2⟩, k3⟩, k4⟩, k5⟩, k6⟩, k7⟩, k8⟩, k9⟩, k10⟩, k11⟩, k12⟩, k13⟩, k14⟩ := sc'
  have kh := a.kh S
  obtain ⟨mean, mg, mb, T⟩ := a.top
  refine CG.call_def (fd := fd) (body := body) (binds := binds) hdep (kh _ _ ho) hd (T.nolimit.keeps (a.stays S)) (codeRec_of kh hcd) hb (BindsTo.of_eq hbind) k4 k5 (fun h₁ hns hk => ?_) k2 k3 k1
  obtain ⟨act, st⟩ := entered (f := f) a S sc hvs hns hk
  refine (h _ _ _ _ rfl rfl rfl rfl rfl act st).mono fun fl s'' z => ?_
  obtain ⟨S', k⟩ := z
  exact k (S.back rfl S')
end
section
variable {w : World} {A : Around} {s : Shared} {env : Env}
theorem GV_name {x : Str} {p pos : Pos} {args : List PySem.Expr} {Q : Value → Shared → Prop}
    (h : wpAny (model P w) A (eval (.Name x p) env) (fun f s₁ => WG (model P w) A (callWith pos f [] (backTo pos (starEach args env)) []) Q s₁) (fun _ _ => False) s) :
    WG (model P w) A (eval (.Call (.Name x p) args [] pos) env) Q s := by
  show WG (model P w) A (do callWith pos (← eval (.Name x p) env) [] (backTo pos (starEach args env)) []) Q s
  exact .first h
theorem GV_mcall {o : PySem.Expr} {name : Str} {apos pos : Pos} {args : List PySem.Expr} {pl : Sem Bool} {Q : Value → Shared → Prop}
    (he : eval (.Call (.Attribute o name apos) args [] pos) env = (do
      let ov ← eval o env
      standAt apos.atName
      let (f, first) ← holding [ov] (getMethod ov name pl)
      callWith pos f first (backTo pos (starEach args env)) (backToKw pos (keywordEach [] env))))
    (h : wpAny (model P w) A (eval o env) (fun ov s₁ => wpAny (model P w) A (getMethod ov name pl) (fun fx s₂ => WG (model P w) A (callWith pos fx.1 fx.2 (backTo pos (starEach args env)) []) Q s₂) (fun _ _ => False) s₁) (fun _ _ => False) s) :
    WG (model P w) A (eval (.Call (.Attribute o name apos) args [] pos) env) Q s := by
  rw [he]
  refine .first (wpAny_mono h (fun ov s₁ h₁ => .bind (.standAt (.bind (.holding (.any (wpAny_mono h₁ (fun fx s₂ h₂ => ?_) fun _ _ e => e)))))) fun _ _ e => e)
  obtain ⟨f, first⟩ := fx
  exact h₂
theorem GcallWith_of {P' : Heap → Prop} {pos : Pos} {f : Value} {first : List Value} {Q : Value → Shared → Prop} {args : List (Bool × Sem Value)} {keywords : List (Option Str × Sem Value)} (hplain : (args.any (·.1) || keywords.any (·.1.isNone)) = false)
    (hk : ∀ h, P' h → ∃ k, (k = Keeper.frame ∨ k = Keeper.machine ∨ k = Keeper.boundFrame) ∧ Looks (model P w) h (keeperOf f) k)
    (h : wpAny (model P w) A (evalArgs f true args keywords) (fun a s₁ => P' s₁.heap ∧ WG (model P w) A (call f (first ++ a.pos) a.kw) Q s₁) (fun _ _ => False) s) : WG (model P w) A (callWith pos f first args keywords) Q s := by
  unfold callWith
  refine .bind (.holding (.any (wpAny_mono h (fun a s₁ h₁ => .bind (.standAt ?_)) fun _ _ x => x)))
  obtain ⟨k, hk', L⟩ := hk _ h₁.1
  simp only [hplain]
  refine .first (L.here ?_)
  have tail : ∀ {t : Sem Value}, WG (model P w) A t Q s₁ → WG (model P w) A (t >>= fun r => holding [r] point >>= fun _ => pure r) Q s₁ :=
    fun ht => .bind (ht.mono fun r s₂ hr => .bind (.holding (.point (.pure hr))))
  have marked (mk : Value) : WG (model P w) A (callMarked mk f (first ++ a.pos) a.kw) Q s₁ := by unfold callMarked; exact .keep h₁.2
  rcases hk' with rfl | rfl | rfl <;> dsimp only <;> first | exact tail h₁.2 | (split <;> first | exact tail h₁.2 | exact tail (marked _))
theorem GV_mach {pos : Pos} {f : Value} {first : List Value} {e : PySem.Expr} {rest : List PySem.Expr} {Q : Value → Shared → Prop} (hf : ∀ a, f ≠ .ref a) (he : starEach (e :: rest) env = (false, eval e env) :: starEach rest env) (hp : (backTo pos (starEach rest env)).any (·.1) = false)
    (h : wpAny (model P w) A (spliced (backTo pos (starEach (e :: rest) env))) (fun vs s₁ => WG (model P w) A (call f (first ++ vs)) Q s₁) (fun _ _ => False) s) :
    WG (model P w) A (callWith pos f first (backTo pos (starEach (e :: rest) env)) []) Q s := by
  rw [he] at h ⊢
  refine GcallWith_of (P' := fun _ => True) (by show ((false || (backTo pos (starEach rest env)).any (·.1)) || false) = false; rw [hp]; rfl) (fun h _ => ⟨.machine, .inr (.inl rfl), ?_⟩) (evalArgs_plain (wpAny_mono h (fun _ _ z => ⟨trivial, z⟩) fun _ _ e => e))
  have : keeperOf f = pure .machine := by
    unfold keeperOf
    cases f <;> first | rfl | exact absurd rfl (hf _)
  rw [this]
  exact .now
end
section
variable {w : World} {A : Around} {env : Env} {G : Gh} {outer : List Env} {Z : Zt} {vs : List (Option Value)} {mt : List (Addr × Obj)} {s : Shared}
theorem GV_cdef {ev : Env} {pos : Pos} {f : Addr} {first : List Value} {e : PySem.Expr} {rest : List PySem.Expr} {Q : Value → Shared → Prop} (a : Act w A env G outer) (hk : keepIn (KK w) (.ref f) = true)
    (he : starEach (e :: rest) ev = (false, eval e ev) :: starEach rest ev) (hp : (backTo pos (starEach rest ev)).any (·.1) = false)
    (h : wpAny (model P w) A (spliced (backTo pos (starEach (e :: rest) ev))) (KDef G fun vs' s₁ => WG (model P w) A (call (.ref f) (first ++ vs')) Q s₁) (fun _ _ => False) s) :
    WG (model P w) A (callWith pos (.ref f) first (backTo pos (starEach (e :: rest) ev)) []) Q s := by
  rw [he] at h ⊢
  refine GcallWith_of (P' := (KK w).In) (by show ((false || (backTo pos (starEach rest ev)).any (·.1)) || false) = false; rw [hp]; rfl) (keeps_K hk) (evalArgs_plain (wpAny_mono h (fun _ _ z => ?_) fun _ _ e => e))
  obtain ⟨S', z⟩ := z
  exact ⟨a.kh S', z⟩
theorem G_not {x : PySem.Expr} {pos : Pos} {whole : Sem Value} {Q : Bool → Shared → Prop} (h : WG (model P w) A (isTrue x env (eval x env)) (fun b s₁ => Q (!b) s₁) s) : WG (model P w) A (isTrue (.UnaryOp .Not x pos) env whole) Q s := by
  rw [arm_isTrue_UnaryOp]
  exact .bind (h.mono fun b s' z => .pure z)
theorem G_orA {x : PySem.Expr} {rest : List PySem.Expr} {pos : Pos} {whole whole' : Sem Value} {Q : Bool → Shared → Prop}
    (h : WG (model P w) A (isTrue x env (eval x env)) (fun b s₁ => if b = true then Q true s₁ else WG (model P w) A (isTrue (.BoolOp .Or rest pos) env whole') Q s₁) s) : WG (model P w) A (isTrue (.BoolOp .Or (x :: rest) pos) env whole) Q s := by
  show WG (model P w) A (do
    match BoolOp.Or, ← isTrue x env (eval x env) with
    | .And, false => pure false
    | .Or, true => pure true
    | _, _ => allTrue .Or rest env) Q s
  refine .bind (h.mono fun b s' z => ?_)
  cases b with
  | true => exact .pure z
  | false => exact z
theorem G_or0 {pos : Pos} {whole : Sem Value} {Q : Bool → Shared → Prop} (h : Q false s) : WG (model P w) A (isTrue (.BoolOp .Or [] pos) env whole) Q s := .pure (a := false) h
theorem G_tcmp {l r : PySem.Expr} {op : CmpOp} {pos : Pos} {whole : Sem Value} {Q : Bool → Shared → Prop} (hm : behindInMarks op r = false)
    (h : WG (model P w) A (eval l env) (fun a s₁ => wpAny (model P w) A (eval r env) (fun b s₂ => wpAny (model P w) A (compareOp op a b) (fun c s₃ => wpAny (model P w) A (truthy c) Q (fun _ _ => False) s₃) (fun _ _ => False) s₂) (fun _ _ => False) s₁) s) :
    WG (model P w) A (isTrue (.Compare l [op] [r] pos) env whole) Q s := by
  rw [isTrue_Compare1, markedBehindIn_of_false hm]
  refine .bind (h.mono fun a s₁ h₁ => .bind (.holding (.any (wpAny_mono h₁ (fun b s₂ h₂ => ?_) fun _ _ e => e))))
  refine .bind (.standAt (.first (wpAny_operating (wpAny_mono h₂ (fun c s₃ h₃ => .holding (.any h₃)) fun _ _ e => e))))
theorem G_value {e : PySem.Expr} {whole : Sem Value} {Q : Bool → Shared → Prop} (he : isTrue e env whole = (do let v ← whole; standAt e.pos; holding [v] (truthy v)))
    (h : WG (model P w) A whole (fun v s' => wpAny (model P w) A (truthy v) Q (fun _ _ => False) s') s) : WG (model P w) A (isTrue e env whole) Q s := by
  rw [he]
  exact .bind (h.mono fun v s' z => .bind (.standAt (.holding (.any z))))
end
namespace Ba
open Builtin
theorem slot_append : Slot "bytearray" "append" "bytearray.append" :=
  .of (owner := "bytearray") (n := "append") (by rw [typeLookup_type, builtinLookup_eq_fast]; kernel_rfl) (by wtm_at "d") (by wtm_at "d") (by wtm_at "d")
    (by first | exact .inl (by wtm_at "d") | exact .inr (by wtm_at "d")) (by rw [isSubtype_type]; kernel_rfl)
theorem slot_extend : Slot "bytearray" "extend" "bytearray.extend" :=
  .of (owner := "bytearray") (n := "extend") (by rw [typeLookup_type, builtinLookup_eq_fast]; kernel_rfl) (by wtm_at "d") (by wtm_at "d") (by wtm_at "d")
    (by first | exact .inl (by wtm_at "d") | exact .inr (by wtm_at "d")) (by rw [isSubtype_type]; kernel_rfl)
theorem slot_init : Slot "bytearray" "__init__" "bytearray.__init__" :=
  .of (owner := "bytearray") (n := "__init__") (by rw [typeLookup_type, builtinLookup_eq_fast]; kernel_rfl) (by wtm_at "d") (by wtm_at "d") (by wtm_at "d")
    (by first | exact .inl (by wtm_at "d") | exact .inr (by wtm_at "d")) (by rw [isSubtype_type]; kernel_rfl)
theorem entry_append : entryFor table "bytearray.append" = some Builtin.«bytearray.append» := by first | exact entryFor_of_fast (by kernel_rfl) | exact entryFor_of_tree (by kernel_rfl)
theorem entry_extend : entryFor table "bytearray.extend" = some Builtin.«bytearray.extend» := by first | exact entryFor_of_fast (by kernel_rfl) | exact entryFor_of_tree (by kernel_rfl)
theorem entry_init : entryFor table "bytearray.__init__" = some Builtin.«bytearray.__init__» := by first | exact entryFor_of_fast (by kernel_rfl) | exact entryFor_of_tree (by kernel_rfl)
theorem entry_new : entryFor table "bytearray.__new__" = some Builtin.«list.__new__» := entryFor_alias (id' := "list.__new__") (by kernel_rfl) (by first | rfl | decide +kernel) (by wtm_at "d") (by kernel_rfl)
theorem type_append : typeOf (.builtin "bytearray.append") = pure (.type "method_descriptor") := by show builtinType _ = _; rw [builtinType_eq_fast]; kernel_rfl
theorem type_extend : typeOf (.builtin "bytearray.extend") = pure (.type "method_descriptor") := by show builtinType _ = _; rw [builtinType_eq_fast]; kernel_rfl
theorem args_append (a b : Value) : argsOk "bytearray.append" ⟨[a, b], []⟩ := by unfold argsOk; kernel_rfl
theorem args_extend (a b : Value) : argsOk "bytearray.extend" ⟨[a, b], []⟩ := by unfold argsOk; kernel_rfl
theorem args_init (a b : Value) : argsOk "bytearray.__init__" ⟨[a, b], []⟩ := by unfold argsOk; kernel_rfl
theorem mro : mroOf (.type "bytearray") = pure [.type "bytearray", .type "object"] := by rw [mroOf_type]; kernel_rfl
theorem lookup_new : typeLookup (.type "bytearray") "__new__" = pure (some (.builtin "bytearray.__new__")) := by rw [typeLookup_type, builtinLookup_eq_fast]; kernel_rfl
theorem sub_self : isSubtype (.type "bytearray") (.type "bytearray") = pure true := by rw [isSubtype_type]; kernel_rfl
theorem called : TypeCalled "bytearray" "bytearray.__new__" "bytearray.__init__" :=
  ⟨by decide +kernel, by decide +kernel, ⟨_, _, mro⟩, madeBy_type mro lookup_new (by wtm_at "d"), by decide +kernel, sub_self, slot_init⟩
theorem typeCall (a : Value) : checkTypeCall "bytearray" ⟨[a], []⟩ = pure () := by kernel_rfl
theorem newCall (a : Value) : checkBuiltinCall "bytearray.__new__" ⟨[.type "bytearray", a], []⟩ = pure () := by kernel_rfl
theorem plain_new : plainId "bytearray.__new__" = true := by decide +kernel
set_option maxRecDepth 1000000 in
set_option maxHeartbeats 4000000 in
theorem owner_new : ("bytearray.__new__".splitOn ".__new__").headD "" = "bytearray" := by simp +decide [String.splitOn, String.splitOnAux]
end Ba
noncomputable abbrev Bo (b : List UInt8) : Obj := { cls := .type "bytearray", data := .bytearray b.toArray }
section
variable {w : World} {A : Around} {s : Shared} {E : Value → Shared → Prop}
theorem hold_ne {id x : String} {args : Args} (hc : noHold (.builtin id args) = true) (hx : holdIds.contains x = true) : id ≠ x := fun e => by
  subst e
  have : (!holdIds.contains id) = true := hc
  rw [hx] at this; cases this
theorem hold_dec {id : String} {args : Args} (hc : noHold (.builtin id args) = true) : Builtin.Bytes.decodersThatHold.contains id = false := by
  cases h : Builtin.Bytes.decodersThatHold.contains id with
  | false => rfl
  | true =>
    have : holdIds.contains id = true := List.contains_iff_mem.mpr (List.mem_append_right _ (List.contains_iff_mem.mp h))
    exact absurd rfl (hold_ne hc this)
theorem G_exported {self : Value} {Q : Bool → Shared → Prop} (h : Q false s) : WG (model P w) A (Builtin.Bytes.exported self) Q s := by
  have key : ∀ (f : Code × Pos → Bool) (_ : ∀ c p, noHold c = true → f (c, p) = false) (Q : Bool → Shared → Prop), Q false s → WG (model P w) A (do return (← stack).any f) Q s := by
    intro f hf Q h Γ p hΓ hN
    show Q (((Γ.code, p) :: Γ.below).any f) s
    rw [List.any_cons, hf _ _ hN.1, List.any_eq_false.mpr (fun x hx => by rw [show x = (x.1, x.2) from rfl, hf _ _ (hN.2 x hx)]; exact Bool.false_ne_true)]
    exact h
  unfold Builtin.Bytes.exported
  refine key _ (fun c p hc => ?_) _ h
  cases c with
  | builtin id args =>
    delta Builtin.Bytes.exported.match_1 Builtin.Bytes.exported._sparseCasesOn_1
    refine (dif_neg (hold_ne (x := "bytearray.__contains__") hc (by wtm_at "d"))).trans ?_
    refine (dif_neg (hold_ne (x := "bytearray.__mod__") hc (by wtm_at "d"))).trans ?_
    refine (dif_neg (hold_ne (x := "bytearray.__rmod__") hc (by wtm_at "d"))).trans ?_
    refine (dif_neg (hold_ne (x := "_struct.pack_into.held") hc (by wtm_at "d"))).trans ?_
    refine (dif_neg (hold_ne (x := "bytearray.find.held") hc (by wtm_at "d"))).trans ?_
    obtain ⟨pos, kw⟩ := args
    cases pos with
    | nil => rfl
    | cons v tl =>
      show (Builtin.Bytes.sameRef v self && Builtin.Bytes.decodersThatHold.contains id) = false
      rw [hold_dec hc, Bool.and_false]
  | _ => rfl
theorem G_checkResize {d : Addr} {b : List UInt8} {Q : Unit → Shared → Prop} (hd : s.heap.get? d = some (Bo b)) (h : Q () s) : WG (model P w) A (Builtin.Bytes.checkResize (.ref d)) Q s := by
  unfold Builtin.Bytes.checkResize
  refine .bind ?_
  refine .bind (G_exported ?_)
  refine .first (wpAny_bind ?_)
  refine wpAny_load hd ?_
  exact wpAny_pure (WG.pure (WG.pure h))
theorem W_write {d : Addr} {b c : List UInt8} {f : Array UInt8 → Array UInt8} {Q : Unit → Shared → Prop} (hd : s.heap.get? d = some (Bo b)) (hf : f b.toArray = c.toArray) (hz : c.length ≤ sizeLine)
    (h : Q () { s with heap := s.heap.update d (Obj.mapBytearray f) }) : wpAny (model P w) A (Builtin.Bytes.write (.ref d) f) Q E s := by
  show wpAny _ _ (updateBytearray d f) _ _ _
  unfold updateBytearray
  refine wpAny_bind (wpAny_load hd ?_)
  show wpAny _ _ (update d (Obj.mapBytearray f) >>= fun _ => lookBehind d) _ _ _
  refine wpAny_bind (wpAny_update hd ?_)
  have h2 : (s.heap.update d (Obj.mapBytearray f)).get? d = some { cls := .type "bytearray", data := .bytearray (f b.toArray) } := Heap.get?_update_self _ hd rfl
  refine wpAny_lookBehind h2 ?_ h
  show (if (f b.toArray).size > sizeLine then some "bytearray:memory" else none) = none
  rw [hf, if_neg (by rw [List.size_toArray]; exact Nat.not_lt.mpr (lin1 hz (by wtm_at "a")))]
theorem wrote {d : Addr} {b c : List UInt8} {f : Array UInt8 → Array UInt8} {h : Heap} (hd : h.get? d = some (Bo b)) (hf : f b.toArray = c.toArray) : (h.update d (Obj.mapBytearray f)).get? d = some (Bo c) := by
  have := Heap.get?_update_self (Obj.mapBytearray f) hd rfl
  rw [this]
  show some ({ cls := .type "bytearray", data := .bytearray (f b.toArray) } : Obj) = _
  rw [hf]
theorem noHold_b {id : String} (h : holdIds.contains id = false) (args : Args) : noHold (.builtin id args) = true := by show (!holdIds.contains id) = true; rw [h]; rfl
theorem CG.builtin {id : String} {args : Args} {b : Builtin} {R : Result → Shared → Prop} (hn : holdIds.contains id = false) (hb : entryFor table id = some b)
    (h : WG (model P w) (A.under (.builtin id args)) (b args) (fun fin s' => match fin with | .done f => R (.ok f) s' | .again c' => c'.quiet = true ∧ CG (model P w) A c' R s') s) : CG (model P w) A (.builtin id args) R s := by
  refine CG.tree (noHold_b hn _) ?_
  show WG _ _ (match entryFor table id with | some b => b args | none => unsupported ((withoutEnding? id "#data").getD id)) _ s
  rw [hb]; exact h
theorem G_call_builtin {id : String} {b : Builtin} {args : List Value} {Q : Value → Shared → Prop} (hn : noHold (.builtin id ⟨args, []⟩) = true) (hq : plainId id = true) (hb : entryFor table id = some b)
    (h : wpAny (model P w) A.in1 (checkBuiltinCall id ⟨args, []⟩) (fun _ s₁ => WG (model P w) A.in1 (b ⟨args, []⟩) (fun fin s' => ∃ v, fin = .done (.ret v) ∧ Q v s') s₁) (fun _ _ => False) s) : WG (model P w) A (call (.builtin id) args) Q s := by
  refine WG.call (CG.tree rfl ?_)
  show WG _ A.in1 (do checkBuiltinCall id ⟨args, []⟩; again (.builtin id ⟨args, []⟩)) _ s
  refine .first (wpAny_mono h (fun _ s₁ h₁ => .pure ⟨plainId_quiet hq _, CG.tree hn ?_⟩) fun _ _ e => e)
  show WG _ _ (match entryFor table id with | some b => b ⟨args, []⟩ | none => unsupported ((withoutEnding? id "#data").getD id)) _ s₁
  rw [hb, Around.under_plainId hq]
  refine h₁.mono fun fin s' z => ?_
  obtain ⟨v, rfl, z⟩ := z
  exact z
theorem GB_append {d : Addr} {b : List UInt8} {n : Int} {t : Tok} {Q : Value → Shared → Prop} (hd : s.heap.get? d = some (Bo b)) (h0 : 0 ≤ n) (h1 : n < 256) (hz : b.length < sizeLine)
    (h : ∀ h', Heap.SameBut d s.heap h' → h'.get? d = some (Bo (b ++ [n.toNat.toUInt8])) → Q .none { s with heap := h' }) : WG (model P w) A (call (.builtin "bytearray.append") [.ref d, .int n t]) Q s := by
  refine G_call_builtin (noHold_b (by wtm_at "d") _) Ba.slot_append.plain Ba.entry_append (Ba.slot_append.check _ _ _ _ _ _ _ _ ⟨_, hd, rfl⟩ (Ba.args_append _ _) ?_)
  unfold Builtin.«bytearray.append»
  refine .first (wpAny_of_eq (a := (.ref d, .int n t)) rfl ?_)
  refine .first ?_
  unfold Builtin.Bytes.byteValue
  refine wpAny_bind (wpAny_of_eq (rfl : asIndex (.int n t) = pure n) ?_)
  rw [show (decide (n < 0) || decide (n ≥ 256)) = false by simp only [Bool.or_eq_false_iff, decide_eq_false_iff_not]; exact ⟨Int.not_lt.mpr (linI1 h0 (by wtm_at "a")), Int.not_le.mpr (linI1 h1 (by wtm_at "a"))⟩]
  refine wpAny_pure ?_
  refine .bind (G_checkResize hd ?_)
  have hf : (fun x : Array UInt8 => x.push n.toNat.toUInt8) b.toArray = (b ++ [n.toNat.toUInt8]).toArray := by simp
  refine .first (W_write hd hf (by rw [List.length_append]; exact hz) ?_)
  exact .any (wpAny_pure ⟨_, rfl, h _ (Heap.SameBut.update ..) (wrote hd hf)⟩)
theorem GB_extend {d : Addr} {b c : List UInt8} {t : Tok} {Q : Value → Shared → Prop} (hd : s.heap.get? d = some (Bo b)) (hz : b.length + c.length ≤ sizeLine)
    (h : ∀ h', Heap.SameBut d s.heap h' → h'.get? d = some (Bo (b ++ c)) → Q .none { s with heap := h' }) : WG (model P w) A (call (.builtin "bytearray.extend") [.ref d, .bytes c.toArray t]) Q s := by
  refine G_call_builtin (noHold_b (by wtm_at "d") _) Ba.slot_extend.plain Ba.entry_extend (Ba.slot_extend.check _ _ _ _ _ _ _ _ ⟨_, hd, rfl⟩ (Ba.args_extend _ _) ?_)
  unfold Builtin.«bytearray.extend»
  refine .first (wpAny_of_eq (a := (.ref d, .bytes c.toArray t)) rfl ?_)
  refine .first (wpAny_of_eq (KBy.special_eq KBy.look_buffer) ?_)
  refine .first (wpAny_rule ?_)
  refine .first ?_
  unfold Builtin.Bytes.payload Builtin.Bytes.payload?
  refine wpAny_bind (wpAny_bind (wpAny_load hd (wpAny_pure ?_)))
  refine wpAny_pure ?_
  refine .first (wpAny_of_eq Bx.take_eq ?_)
  have hf : (fun x : Array UInt8 => x ++ c.toArray) b.toArray = (b ++ c).toArray := by simp
  have fin : WG (model P w) A.in1 (do Builtin.Bytes.write (.ref d) (· ++ c.toArray); ret .none) (fun fin s' => ∃ v, fin = .done (.ret v) ∧ Q v s') s := by
    refine .first (W_write hd hf (by rw [List.length_append]; exact hz) ?_)
    exact .any (wpAny_pure ⟨_, rfl, h _ (Heap.SameBut.update ..) (wrote hd hf)⟩)
  show WG (model P w) A.in1 (do
    if !c.toArray.isEmpty then Builtin.Bytes.checkResize (.ref d)
    Builtin.Bytes.write (.ref d) (· ++ c.toArray)
    ret .none) _ s
  cases hc : c.toArray.isEmpty with
  | true => exact fin
  | false => exact .bind (G_checkResize hd fin)
theorem G_callType {T newId initId : String} {Bi : Builtin} {args : List Value} {Q Q₁ : Value → Shared → Prop} (ft : TypeCalled T newId initId)
    (hct : checkTypeCall T ⟨args, []⟩ = pure ()) (entryI : entryFor table initId = some Bi) (hnI : holdIds.contains initId = false)
    (hnew : codeAny (model P w) A.in1 (.call (.builtin newId) ⟨.type T :: args, []⟩) (wants Q₁ fun _ _ => False) s)
    (hnext : ∀ obj s₁, Q₁ obj s₁ → s₁.TypeIs obj T ∧ argsOk initId ⟨obj :: args, []⟩ ∧ WG (model P w) A.in1.in1 (Bi ⟨obj :: args, []⟩) (fun fin s' => ∃ v, fin = .done (.ret v) ∧ v = .none ∧ Q obj s') s₁) :
    WG (model P w) A (call (.type T) args) Q s := by
  obtain ⟨c, tl, hmro⟩ := ft.mro
  have hmade := ft.made
  have hsub := ft.sub
  refine WG.call (CG.tree rfl (.any ?_))
  show wpAny _ _ (callAny (.type T) _) _ _ _
  refine wpAny_pure ⟨Code.quiet_builtin _ (by wtm_at "d"), CG.builtin (by wtm_at "d") F.entry_type_call ?_⟩
  rw [Around.under_plain (weight_type_call_type T args []) (units_type_call_type T args [])]
  have h1 := ft.notType
  have h2 := ft.canCreate
  unfold Builtin.«type.__call__»
  refine WG.ifF (by rw [h1]) ?_
  refine WG.ifF h2 ?_
  refine .first (wpAny_of_eq hct ?_)
  refine .first (wpAny_of_eq hmro ?_)
  refine WG.ifF rfl ?_
  refine .first (wpAny_of_eq hmade ?_)
  dsimp only
  refine .first (wpAny_pure ?_)
  refine .first (wpAny_holding (wpAny_call (codeAny_mono hnew fun r s₁ hr => ?_)))
  cases r with
  | error e => exact hr
  | ok fl =>
    cases fl with
    | ret obj =>
      obtain ⟨hT, hok, hi⟩ := hnext obj s₁ hr
      refine .first (wpAny_isInstance hT hsub ?_)
      refine WG.ifF rfl ?_
      refine .bind (.holding ?_)
      unfold callSpecial?
      refine .first (wpAny_specialOf hT ft.init.lookup ?_)
      dsimp only
      refine .holding (.first (wpAny_of_eq (ft.init.bind obj) ?_))
      dsimp only
      refine .bind (G_call_builtin (args := obj :: args) (noHold_b hnI _) ft.init.plain entryI (ft.init.check _ _ _ _ _ _ _ _ hT hok (hi.mono fun fin s' z => ?_)))
      obtain ⟨v, rfl, rfl, z⟩ := z
      refine ⟨_, rfl, .pure ?_⟩
      dsimp only
      exact .pure z
    | _ => exact hr.elim
theorem code_new (a : Value) {Q₁ : Value → Shared → Prop}
    (h : Q₁ (.ref s.heap.objs.size) { s with heap := s.heap.push { cls := .type "bytearray", data := .bytearray #[] } }) :
    codeAny (model P w) A (.call (.builtin "bytearray.__new__") ⟨[.type "bytearray", a], []⟩) (wants Q₁ E) s := by
  refine codeAny_of_tree ?_
  show wpAny _ A.in1 (do checkBuiltinCall "bytearray.__new__" ⟨[.type "bytearray", a], []⟩; again (.builtin "bytearray.__new__" ⟨[.type "bytearray", a], []⟩)) _ _ s
  refine wpAny_bind (wpAny_of_eq (Ba.newCall a) (wpAny_pure ⟨plainId_quiet Ba.plain_new _, codeAny_builtin_stack Ba.entry_new rfl fun p st => ?_⟩))
  rw [Around.under_plainId Ba.plain_new _]
  have hsub := Ba.sub_self
  have hown := Ba.owner_new
  obtain ⟨hp, g, d, tk, os⟩ := s
  simp only [hown]
  wp_walk
  exact h
end
namespace Ba
open Builtin
theorem plainAttrs : PlainAttrs "bytearray" :=
  ⟨⟨"bytearray.__getattribute__", by rw [typeLookup_type, builtinLookup_eq_fast]; kernel_rfl, by decide +kernel⟩, by rw [typeLookup_type, builtinLookup_eq_fast]; kernel_rfl⟩
theorem look_buffer : typeLookup (.type "bytearray") "__buffer__" = pure (some (.builtin "bytearray.__buffer__")) := by rw [typeLookup_type, builtinLookup_eq_fast]; kernel_rfl
theorem look_release : typeLookup (.type "bytearray") "__release_buffer__" = pure (some (.builtin "bytearray.__release_buffer__")) := by rw [typeLookup_type, builtinLookup_eq_fast]; kernel_rfl
theorem no_bytes : typeLookup (.type "bytearray") "__bytes__" = pure none := by rw [typeLookup_type, builtinLookup_eq_fast]; kernel_rfl
theorem noIdx : typeLookup (.type "bytearray") "__index__" = pure none := by rw [typeLookup_type, builtinLookup_eq_fast]; kernel_rfl
theorem bytes_no_index : typeLookup (.type "bytes") "__index__" = pure none := by rw [typeLookup_type, builtinLookup_eq_fast]; kernel_rfl
theorem bind (v : Value) : Bytes.bindOptional "bytearray.__init__" "bytearray" ["source", "encoding", "errors"] [v] [] = pure [some v, none, none] := by kernel_rfl
theorem buffer_full {id : String} {b : Array UInt8} {t : Tok} : Bytes.buffer? id (.bytes b t) true = pure (some b) := by
  unfold Bytes.buffer?
  rw [KBy.special_eq KBy.look_buffer, KBy.own_buffer, KBy.own_release]
  kernel_rfl
end Ba
section
variable {w : World} {A : Around} {s : Shared} {E : Value → Shared → Prop}
theorem W_own {d : Addr} {b : List UInt8} {name : String} {id : String} {Q : Bool → Shared → Prop} (hd : s.heap.get? d = some (Bo b)) (hl : typeLookup (.type "bytearray") (name : Str) = pure (some (.builtin id))) (he : id.endsWith ("." ++ name) = true) (hn : id.dropRight (name.length + 1) = "bytearray") (h : Q true s) :
    wpAny (model P w) A (Builtin.Bytes.slotIsOwn (.ref d) name) Q E s := by
  have hT : s.TypeIs (.ref d) "bytearray" := ⟨_, hd, rfl⟩
  unfold Builtin.Bytes.slotIsOwn
  refine wpAny_bind (wpAny_specialOf hT hl ?_)
  dsimp only
  rw [he]
  refine bm_if_false rfl ?_
  rw [hn]
  exact wpAny_isInstance hT Ba.sub_self h
theorem W_ownRelease {d : Addr} {b : List UInt8} {Q : Bool → Shared → Prop} (hd : s.heap.get? d = some (Bo b)) (h : Q false s) : wpAny (model P w) A (Builtin.Bytes.ownRelease (.ref d)) Q E s := by
  unfold Builtin.Bytes.ownRelease
  exact wpAny_bind (W_own hd Ba.look_release (by wtm_at "d") (by wtm_at "d") (wpAny_pure h))
theorem W_payload {d : Addr} {b : List UInt8} {Q : Array UInt8 → Shared → Prop} (hd : s.heap.get? d = some (Bo b)) (h : Q b.toArray s) : wpAny (model P w) A (Builtin.Bytes.payload (.ref d)) Q E s := by
  unfold Builtin.Bytes.payload Builtin.Bytes.payload?
  exact wpAny_bind (wpAny_bind (wpAny_load hd (wpAny_pure (wpAny_pure h))))
theorem W_buffer {d : Addr} {b : List UInt8} {id : String} {full : Bool} {Q : Option (Array UInt8) → Shared → Prop} (hd : s.heap.get? d = some (Bo b)) (h : Q (some b.toArray) s) : wpAny (model P w) A (Builtin.Bytes.buffer? id (.ref d) full) Q E s := by
  have hT : s.TypeIs (.ref d) "bytearray" := ⟨_, hd, rfl⟩
  unfold Builtin.Bytes.buffer?
  refine wpAny_bind (wpAny_specialOf hT Ba.look_buffer ?_)
  dsimp only
  refine wpAny_bind (W_own hd Ba.look_buffer (by wtm_at "d") (by wtm_at "d") ?_)
  refine bm_if_false rfl ?_
  refine wpAny_bind (wpAny_specialOf hT Ba.look_buffer ?_)
  refine wpAny_bind (W_ownRelease hd ?_)
  refine bm_if_false rfl ?_
  exact wpAny_bind (W_payload hd (wpAny_pure h))
theorem GB_init {d : Addr} {b c : List UInt8} {t : Tok} {Q : Value → Shared → Prop} (hd : s.heap.get? d = some (Bo b)) (hz : c.length ≤ sizeLine)
    (h : ∀ h', (∀ a o, a ≠ d → s.heap.get? a = some o → h'.get? a = some o) → h'.get? d = some (Bo c) → Q (.ref d) { s with heap := h' }) :
    WG (model P w) A (Builtin.«bytearray.__init__» ⟨[.ref d, .bytes c.toArray t], []⟩) (fun fin s' => ∃ v, fin = .done (.ret v) ∧ v = .none ∧ Q (.ref d) s') s := by
  unfold Builtin.«bytearray.__init__»
  refine .first (W_ownRelease hd ?_)
  refine WG.ifF rfl ?_
  refine .first (wpAny_of_eq (Ba.bind _) ?_)
  dsimp only
  refine .first (wpAny_of_eq (a := ()) rfl ?_)
  refine .first (wpAny_of_eq (a := ()) rfl ?_)
  refine .bind (.bind (G_exported (.first (wpAny_bind ?_))))
  refine wpAny_load hd ?_
  refine wpAny_pure (WG.pure ?_)
  refine WG.ifF rfl ?_
  refine .first (W_write (c := []) hd rfl (Nat.zero_le _) ?_)
  have h2 := wrote (c := []) hd (f := fun _ => #[]) rfl
  refine .first (wpAny_of_eq (a := none) rfl ?_)
  refine WG.ifF rfl ?_
  refine .bind (WG.ifF rfl (WG.ifF rfl (.pure ?_)))
  refine .first (wpAny_of_eq (KBy.special_eq Ba.bytes_no_index) ?_)
  refine WG.ifF rfl ?_
  refine .first (wpAny_of_eq Ba.buffer_full ?_)
  dsimp only
  refine .first (wpAny_rule ?_)
  refine .first (W_write (c := c) h2 rfl hz ?_)
  refine .any (wpAny_pure ⟨_, rfl, rfl, h _ (fun a o ne e => ?_) (wrote h2 rfl)⟩)
  exact (Heap.get?_update_other _ _ (Ne.symm ne)).trans ((Heap.get?_update_other _ _ (Ne.symm ne)).trans e)
theorem GB_new {c : List UInt8} {t : Tok} {Q : Value → Shared → Prop} (hz : c.length ≤ sizeLine)
    (h : ∀ h', (∀ a o, s.heap.get? a = some o → h'.get? a = some o) → h'.get? s.heap.objs.size = some (Bo c) → Q (.ref s.heap.objs.size) { s with heap := h' }) : WG (model P w) A (call (.type "bytearray") [.bytes c.toArray t]) Q s := by
  refine G_callType (Q₁ := fun obj s₁ => obj = .ref s.heap.objs.size ∧ s₁ = { s with heap := s.heap.push { cls := .type "bytearray", data := .bytearray #[] } }) Ba.called (Ba.typeCall _) Ba.entry_init (by wtm_at "d") (code_new _ ⟨rfl, rfl⟩) fun obj s₁ h₁ => ?_
  obtain ⟨rfl, rfl⟩ := h₁
  have hS : (s.heap.push { cls := .type "bytearray", data := .bytearray #[] }).get? s.heap.objs.size = some (Bo []) := Heap.get?_push_size _ rfl
  refine ⟨⟨_, hS, rfl⟩, Ba.args_init _ _, GB_init (s := { s with heap := s.heap.push { cls := .type "bytearray", data := .bytearray #[] } }) hS hz fun h' hk hd => h h' (fun a o e => ?_) hd⟩
  exact hk a o (Nat.ne_of_lt (Heap.lt_size e)) (Heap.get?_push_of_some _ e)
theorem bytes_of {d : Addr} {b : List UInt8} {Q : Value → Shared → Prop} (hd : s.heap.get? d = some (Bo b)) (hz : b.length ≤ sizeLine)
    (hQ : ∀ t k, Q (.bytes b.toArray t) { s with toks := k }) : codeAny (model P w) A (.call (.builtin "bytes.__new__") ⟨[.type "bytes", .ref d], []⟩) (wants Q E) s := by
  refine codeAny_of_tree ?_
  show wpAny _ A.in1 (do checkBuiltinCall "bytes.__new__" ⟨[.type "bytes", .ref d], []⟩; again (.builtin "bytes.__new__" ⟨[.type "bytes", .ref d], []⟩)) _ _ s
  refine wpAny_bind (wpAny_of_eq (F.bm_newCall _) (wpAny_pure ⟨plainId_quiet F.bm_plain _, codeAny_builtin F.bm_entry ?_⟩))
  rw [Around.under_plainId F.bm_plain _]
  have hT : s.TypeIs (.ref d) "bytearray" := ⟨_, hd, rfl⟩
  unfold Builtin.«bytes.__new__»
  refine wpAny_bind (wpAny_of_eq (a := true) rfl ?_)
  refine bm_if_false rfl ?_
  refine wpAny_bind (wpAny_of_eq F.bm_sub ?_)
  refine bm_if_false rfl ?_
  refine wpAny_bind (wpAny_of_eq (F.bm_bind _) ?_)
  refine wpAny_bind (wpAny_of_eq (a := ()) rfl ?_)
  refine wpAny_bind (wpAny_of_eq (a := ()) rfl ?_)
  refine bm_if_false rfl ?_
  refine wpAny_bind (wpAny_specialOf hT Ba.no_bytes ?_)
  refine wpAny_bind (wpAny_bind ?_)
  show wpAny _ _ (load d >>= _) _ _ _
  refine wpAny_bind (wpAny_load hd ?_)
  refine wpAny_pure (wpAny_pure ?_)
  refine bm_if_false rfl ?_
  refine wpAny_bind (wpAny_specialOf hT Ba.noIdx ?_)
  refine bm_if_true rfl ?_
  first
    | show wpAny _ _ (Builtin.Bytes.buffer? "bytes.__new__" (.ref d) true >>= _) _ _ _
    | (refine wpAny_bind ?_; show wpAny _ _ (Builtin.Bytes.buffer? "bytes.__new__" (.ref d) true >>= _) _ _ _)
  refine wpAny_bind (W_buffer hd ?_)
  dsimp only
  refine wpAny_bind (wpAny_rule ?_)
  refine wpAny_bind (wpAny_mkBytes ?_ (by rw [List.size_toArray]; exact hz))
  show wpAny _ _ (if (Value.type "bytes" == Value.type "bytes") = true then _ else _) _ _ _
  refine bm_if_true (by decide) ?_
  first
    | exact wpAny_pure (hQ _ _)
    | exact wpAny_bind (wpAny_pure (wpAny_pure (hQ _ _)))
theorem call_bytes_of {d : Addr} {b : List UInt8} {Q : Value → Shared → Prop} (hd : s.heap.get? d = some (Bo b)) (hz : b.length ≤ sizeLine)
    (hQ : ∀ t k, Q (.bytes b.toArray t) { s with toks := k }) : wpAny (model P w) A (call (.type "bytes") [.ref d]) Q E s := by
  refine callType_codes (Q₁ := fun obj s₁ => s₁.TypeIs obj "bytes" ∧ Q obj s₁) F.bm_called (F.bm_typeCall _) F.entry_object_init
    (bytes_of hd hz fun t k => ⟨PySem.W.typeIs_bytes _ _ _, hQ t k⟩) fun obj s₁ h₁ => ?_
  exact ⟨h₁.1, F.args_object_init_2 obj _, object_init_meets F.bm_called.init.lookup F.bm_called.made (by decide) (P) w A.in1 _ s₁ ⟨h₁.1, rfl, h₁.2⟩⟩
theorem GM_append {d : Addr} {b : List UInt8} {pl : Sem Bool} {Q : Value × List Value → Shared → Prop} (hd : s.heap.get? d = some (Bo b)) (h : Q (.builtin "bytearray.append", [.ref d]) s) : wpAny (model P w) A (getMethod (.ref d) "append" pl) Q E s :=
  getMethod_builtin ⟨_, hd, rfl⟩ Ba.plainAttrs Ba.slot_append Ba.type_append (fun a e => by cases e; exact ⟨_, hd, rfl⟩) h
theorem GM_extend {d : Addr} {b : List UInt8} {pl : Sem Bool} {Q : Value × List Value → Shared → Prop} (hd : s.heap.get? d = some (Bo b)) (h : Q (.builtin "bytearray.extend", [.ref d]) s) : wpAny (model P w) A (getMethod (.ref d) "extend" pl) Q E s :=
  getMethod_builtin ⟨_, hd, rfl⟩ Ba.plainAttrs Ba.slot_extend Ba.type_extend (fun a e => by cases e; exact ⟨_, hd, rfl⟩) h
end
section
variable {w : World} {A : Around} {env : Env} {G : Gh} {outer : List Env} {Z : Zt} {vs : List (Option Value)} {mt : List (Addr × Obj)} {s : Shared} {E : Value → Shared → Prop}
theorem RG_append {d : Addr} {b : List UInt8} {n : Nat} {t : Tok} {mt' : List (Addr × Obj)} {Q : Value → Shared → Prop} (S : St G Z vs mt s) (c : Chg d (Bo b) (Bo (b ++ [n.toUInt8])) mt mt') (h1 : n < 256) (hz : b.length < sizeLine)
    (h : ∀ s', St G Z vs mt' s' → Q .none s') : WG (model P w) A (call (.builtin "bytearray.append") [.ref d, .int (n : Int) t]) Q s :=
  GB_append (S.mu _ c.mem).1 (by omega) (by omega) hz fun h' hs hd => h _ (S.chg (tk := s.toks) c hs hd)
theorem RG_extend {d : Addr} {b x : List UInt8} {t : Tok} {mt' : List (Addr × Obj)} {Q : Value → Shared → Prop} (S : St G Z vs mt s) (c : Chg d (Bo b) (Bo (b ++ x)) mt mt') (hz : b.length + x.length ≤ sizeLine)
    (h : ∀ s', St G Z vs mt' s' → Q .none s') : WG (model P w) A (call (.builtin "bytearray.extend") [.ref d, .bytes x.toArray t]) Q s :=
  GB_extend (S.mu _ c.mem).1 hz fun h' hs hd => h _ (S.chg (tk := s.toks) c hs hd)
theorem RG_new {x : List UInt8} {t : Tok} {Q : Value → Shared → Prop} (a : Act w A env G outer) (S : St G Z vs mt s) (hz : x.length ≤ sizeLine)
    (h : ∀ d s', d ∉ G.ft → St G Z vs ((d, Bo x) :: mt) s' → Q (.ref d) s') : WG (model P w) A (call (.type "bytearray") [.bytes x.toArray t]) Q s :=
  GB_new hz fun h' hk hd => h _ _ (a.fresh S no_size).2 (S.own (S.grow (tk := s.toks) hk) no_size hd (a.frl S))
theorem R_bytesOf {d : Addr} {b : List UInt8} {Q : Value → Shared → Prop} (S : St G Z vs mt s) (hd : Has d (Bo b) mt) (hz : b.length ≤ sizeLine)
    (h : ∀ t s', St G Z vs mt s' → Q (.bytes b.toArray t) s') : wpAny (model P w) A (call (.type "bytes") [.ref d]) Q E s :=
  call_bytes_of (S.has hd) hz fun t k => h _ _ S.tok
end
noncomputable def locsOf (fd : FuncData) (binds : List (Str × Value)) : List (Str × Value) := binds.filter fun p => decide (fd.scope.names.lookup p.1 = some .local)
noncomputable def scopeOkC (fd : FuncData) (binds : List (Str × Value)) (nm gn : List Str) : Bool :=
  (fd.scope.kind == .function) && !fd.scope.isCoroutine && !fd.scope.isGenerator &&
  nm.all (fun x => decide (fd.scope.names.lookup x = some .local)) && gn.all (fun x => decide (fd.scope.names.lookup x = some .globalImplicit)) && decide nm.Nodup && !nm.contains "__debug__" && !gn.contains "__debug__" &&
  decide (fd.globals = mainGlobals) && decide (fd.builtins = builtinsNs) && fd.closure.isEmpty && (locsOf fd binds).all (fun x => nm.contains x.1)
theorem lookup_snoc {x n : Str} {v : Value} (l : List (Str × Value)) : (l ++ [(n, v)]).lookup x = (l.lookup x).or (if x = n then some v else none) := by
  induction l with
  | nil => 
    show List.lookup x [(n, v)] = _
    rw [List.lookup_cons]
    by_cases h : x = n
    · subst h; simp
    · rw [if_neg h, beq_eq_false_iff_ne.mpr h]; rfl
  | cons p r ih =>
    obtain ⟨k, u⟩ := p
    rw [List.cons_append, List.lookup_cons, List.lookup_cons, ih]
    cases x == k <;> rfl
theorem bindL_eq (k : Str → Option NameKind) : ∀ (binds : List (Str × Value)) (m : Str → Option Value) (x : Str), bindL k binds m x = ((binds.filter fun p => decide (k p.1 = some .local)).reverse.lookup x).or (m x)
  | [], m, x => rfl
  | (n, v) :: r, m, x => by
    unfold bindL
    rw [bindL_eq k r]
    by_cases h : k n = some .local
    · rw [if_pos h, List.filter_cons_of_pos (by simpa using h), List.reverse_cons, lookup_snoc]
      cases (List.filter (fun p => decide (k p.1 = some .local)) r).reverse.lookup x with
      | some u => rfl
      | none =>
        show (if x = n then some v else m x) = ((if x = n then some v else none : Option Value)).or (m x)
        split <;> rfl
    · rw [if_neg h, List.filter_cons_of_neg (by simpa using h)]
noncomputable def cellMt (h : Heap) (cs : List (Str × Addr)) : List (Addr × Obj) := cs.map fun p => (p.2, (h.get? p.2).getD default)
section
variable {w : World} {A : Around} {env : Env} {G : Gh} {outer : List Env} {Z : Zt} {vs : List (Option Value)} {foot rest : List (Addr × Obj)} {s : Shared}
theorem enteredC {f : Addr} {fd : FuncData} {binds : List (Str × Value)} {nm gn : List Str} (a : Act w A env G outer) (S : St G Z vs (foot ++ rest) s) (sc : scopeOkC fd binds nm gn = true) {vs₁ : List (Option Value)} (hvs : nm.map (fun x => (locsOf fd binds).reverse.lookup x) = vs₁)
    {s₁ : Shared} (I : InCallC s (callEnvC fd s.heap.objs.size f).locals (bindL (callEnvC fd s.heap.objs.size f).kindOf binds fun _ => none) (callEnvC fd s.heap.objs.size f).cells (bindC (callEnvC fd s.heap.objs.size f).kindOf binds fun _ => none) s₁)
    (hlk : ∀ p ∈ (callEnvC fd s.heap.objs.size f).cells, (callEnvC fd s.heap.objs.size f).cells.lookup p.1 = some p.2) :
    Act w (A.deeper (callEnvC fd s.heap.objs.size f)) (callEnvC fd s.heap.objs.size f) (mkG G.B s foot (G.L :: G.fr) Z nm gn) (env :: outer) ∧ St (mkG G.B s foot (G.L :: G.fr) Z nm gn) Z vs₁ (cellMt s₁.heap (callEnvC fd s.heap.objs.size f).cells ++ foot) s₁ ∧
      ∀ p ∈ (callEnvC fd s.heap.objs.size f).cells, ((s₁.heap.get? p.2).getD default).data = .cell (bindC (callEnvC fd s.heap.objs.size f).kindOf binds (fun _ => none) p.1) := by
  simp only [scopeOkC, Bool.and_eq_true, Bool.not_eq_true', beq_iff_eq, List.all_eq_true, decide_eq_true_eq, bne_iff_ne, List.isEmpty_iff] at sc
  obtain ⟨⟨⟨⟨⟨⟨⟨⟨⟨⟨⟨k1, k2⟩, k3⟩, k6⟩, k7⟩, k8⟩, k9⟩, k10⟩, k11⟩, k12⟩, k13⟩, k14⟩ := sc
  have hcell : ∀ p ∈ (callEnvC fd s.heap.objs.size f).cells, ∃ o, s₁.heap.get? p.2 = some o ∧ o.data = .cell (bindC (callEnvC fd s.heap.objs.size f).kindOf binds (fun _ => none) p.1) := fun p hp => I.cell p.1 p.2 (hlk p hp)
  have habove : ∀ p ∈ (callEnvC fd s.heap.objs.size f).cells, s.heap.objs.size < p.2 := fun p hp => I.above p.1 p.2 hp
  have hapart := I.apart
  have hns : s₁.heap.Ns s.heap.objs.size (bindL (callEnvC fd s.heap.objs.size f).kindOf binds fun _ => none) := I.toInCall.ns
  have hk := I.toInCall.keep
  obtain ⟨h₁, tk, es⟩ := I.toInCall.same
  have e : bindL (callEnvC fd s.heap.objs.size f).kindOf binds (fun _ => none) = look nm (nm.map (fun x => (locsOf fd binds).reverse.lookup x)) := by
    funext x
    rw [bindL_eq]
    show ((locsOf fd binds).reverse.lookup x).or none = _
    rw [look_vals, Option.or_none]
    split
    · rfl
    · rename_i hx
      cases q : List.lookup x (locsOf fd binds).reverse with
      | none => rfl
      | some v =>
        exfalso
        have : ∃ y ∈ (locsOf fd binds).reverse, y.1 = x := by
          have := List.lookup_eq_some_iff.mp q
          obtain ⟨l₁, l₂, e, _⟩ := this
          exact ⟨(x, v), by rw [e]; simp, rfl⟩
        obtain ⟨y, hy, rfl⟩ := this
        have := k14 y (List.mem_reverse.mp hy)
        exact hx (List.contains_iff_mem.mp this)
  rw [e] at hns
  clear I
  generalize hcs : (callEnvC fd s.heap.objs.size f).cells = cs at hlk hcell habove hapart ⊢
  generalize hA' : A.deeper (callEnvC fd s.heap.objs.size f) = A'
  generalize he' : callEnvC fd s.heap.objs.size f = env' at hcell ⊢
  have hfr : A'.frames = some (env' :: env :: outer) := by rw [← hA', ← he']; show A.frames.map _ = _; rw [a.frs]; rfl
  have act : Act w A' env' (mkG G.B s foot (G.L :: G.fr) Z nm gn) (env :: outer) := by
    refine ⟨?_, ?_, ?_, ?_, ?_, ?_, ?_, k8, ⟨?_, ?_⟩, hfr, ?_, a.kin, a.top, fun b o e => S.zs b o (a.zb b o e), ?_, a.below S, ?_⟩
    · rw [← he']; rfl
    · rw [← he']; rfl
    · rw [← he']; exact k11
    · rw [← he']; exact k12
    · rw [← he']; exact k1
    · rw [← he']; exact k6
    · rw [← he']; exact k7
    · intro q; rw [List.contains_iff_mem.mpr q] at k9; cases k9
    · intro q; rw [List.contains_iff_mem.mpr q] at k10; cases k10
    · rw [← hA']; exact a.hnd
    · rw [List.filterMap_cons, a.frm, a.out]
    · intro b hb
      obtain ⟨p, hp, rfl⟩ := List.mem_map.mp hb
      show (s.heap.get? p.1).isSome = true
      rw [(S.mu p (List.mem_append_left _ hp)).1]; rfl
  have szn : ∀ n, s.heap.objs.size ≤ n → s.heap.get? n = none := fun n hn => by
    cases q : s.heap.get? n with
    | none => rfl
    | some o => exact absurd (Heap.lt_size q) (Nat.not_lt.mpr hn)
  have frl : ∀ b ∈ G.L :: G.fr, (s.heap.get? b).isSome = true := fun b hb => by
    rcases List.mem_cons.mp hb with rfl | hb
    · obtain ⟨o, _, _, ho, _⟩ := S.ns; rw [ho]; rfl
    · exact a.frl S b hb
  have hmt : ∀ p ∈ cellMt s₁.heap cs, s₁.heap.get? p.1 = some p.2 ∧ s.heap.objs.size < p.1 := fun p hp => by
    obtain ⟨q, hq, rfl⟩ := List.mem_map.mp hp
    obtain ⟨o, ho, _⟩ := hcell q hq
    exact ⟨by show s₁.heap.get? q.2 = some ((s₁.heap.get? q.2).getD default); rw [ho]; rfl, habove q hq⟩
  refine ⟨act, hvs ▸ ?_, fun p hp => ?_⟩
  · refine ⟨hns, by rw [List.length_map], szn _ (Nat.le_refl _), fun b o e _ _ => hk b o e, fun b o e _ => ⟨o.slots, hk b o e⟩, fun b o e => ?_, fun b o za => hk b o (S.z b o za), fun _ _ q => q, fun _ _ q => .inl q, fun o za => ?_, fun b o za q => ?_, fun p hp => ?_, ?_, by rw [es], by rw [es], by rw [es]⟩
    · rw [hk b o e]; rfl
    · have := S.z _ _ za; rw [szn _ (Nat.le_refl _)] at this; cases this
    · rcases List.mem_cons.mp q with rfl | q
      · exact S.zL _ za
      · exact S.zF _ _ za q
    · rcases List.mem_append.mp hp with hp | hp
      · obtain ⟨g1, g2⟩ := hmt p hp
        have gn := szn p.1 (by omega)
        refine ⟨g1, fun q => ?_, fun q => ?_, .inr gn, fun o za => ?_⟩
        · have : p.1 = s.heap.objs.size := q
          exact absurd g2 (by rw [this]; exact Nat.lt_irrefl _)
        · have := frl _ q; rw [gn] at this; cases this
        · have := S.z _ _ za; rw [gn] at this; cases this
      · have M := S.mu p (List.mem_append_left _ hp)
        refine ⟨hk _ _ M.1, fun q => ?_, fun q => ?_, .inl (List.mem_map_of_mem hp), M.2.2.2.2⟩
        · have := M.1; rw [show p.1 = s.heap.objs.size from q, szn _ (Nat.le_refl _)] at this; cases this
        · rcases List.mem_cons.mp q with q | q
          · exact M.2.1 q
          · exact M.2.2.1 q
    · rw [List.map_append, List.nodup_append]
      have nd := S.nd
      rw [List.map_append, List.nodup_append] at nd
      refine ⟨?_, nd.1, fun x hx y hy q => ?_⟩
      · rw [cellMt, List.map_map]
        show (cs.map (fun p => p.2)).Nodup
        rw [List.Nodup, List.pairwise_map]
        exact hapart
      · subst q
        obtain ⟨p, hp, rfl⟩ := List.mem_map.mp hx
        obtain ⟨r, hr, e⟩ := List.mem_map.mp hy
        have := (S.mu r (List.mem_append_left _ hr)).1
        rw [e, szn _ (Nat.le_of_lt (hmt p hp).2)] at this
        cases this
  · obtain ⟨o, ho, hd⟩ := hcell p hp
    rw [ho]; exact hd
end
section
variable {w : World} {A : Around} {s : Shared} {R : Result → Shared → Prop}
theorem CG.call_cells {a : Addr} {o : Obj} {fd : FuncData} {body : List Stmt} {vals : List Value} {binds : List (Str × Value)}
    (hroom : A.depth < recursionLimit) (ho : s.heap.get? a = some o) (hdata : o.data = .func fd) (hlim : s.heap.NoLimit) (hcd : s.heap.CodeRec fd.code fd.qualname)
    (hbody : fd.body = .stmts body) (hbind : bindArgs fd ⟨vals, []⟩ = pure binds) (hclo : fd.closure = [])
    (hkind : ∀ x ∈ binds, fd.scope.names.lookup x.1 = some .local ∨ (fd.scope.names.lookup x.1 = some .cell ∧ ((cellsFrom (s.heap.objs.size + 1) fd.scope.names []).lookup x.1).isSome = true))
    (h : ∀ s₁, InCallC s (callEnvC fd s.heap.objs.size a).locals (bindL (callEnvC fd s.heap.objs.size a).kindOf binds fun _ => none) (callEnvC fd s.heap.objs.size a).cells
        (bindC (callEnvC fd s.heap.objs.size a).kindOf binds fun _ => none) s₁ →
      WG (model P w) (A.deeper (callEnvC fd s.heap.objs.size a)) (execs body (callEnvC fd s.heap.objs.size a)) (fun f s' => R (.ok (.ret (match f with | .ret v => v | _ => .none))) s') s₁)
    (hco : fd.scope.isCoroutine = false := by rfl) (hgen : fd.scope.isGenerator = false := by rfl) (hk : fd.scope.kind = .function := by rfl) :
    CG (model P w) A (.call (.ref a) ⟨vals, []⟩) R s := by
  refine CG.call_function hroom ho hdata hco hgen hbody hcd ?_
  rw [hbind, hclo]
  refine wpAny_pure (wpAny_newFunctionEnv_cells hk hkind fun env he s' x => ?_)
  subst he
  exact ⟨hlim.keeps x.toInCall.keep, CG.func (h s' x)⟩
end
section
variable {w : World} {A : Around} {env : Env} {G : Gh} {outer : List Env} {Z : Zt} {vs : List (Option Value)} {foot rest : List (Addr × Obj)} {s : Shared}
theorem scopeOkC.parts {fd : FuncData} {binds : List (Str × Value)} {nm gn : List Str} (sc : scopeOkC fd binds nm gn = true) : fd.scope.kind = .function ∧ fd.scope.isCoroutine = false ∧ fd.scope.isGenerator = false ∧ fd.closure = [] := by
  simp only [scopeOkC, Bool.and_eq_true, Bool.not_eq_true', beq_iff_eq, List.all_eq_true, decide_eq_true_eq, bne_iff_ne, List.isEmpty_iff] at sc
  obtain ⟨⟨⟨⟨⟨⟨⟨⟨⟨⟨⟨k1, k2⟩, k3⟩, k6⟩, k7⟩, k8⟩, k9⟩, k10⟩, k11⟩, k12⟩, k13⟩, k14⟩ := sc
  exact ⟨k1, k2, k3, k13⟩
theorem call_cells {f : Addr} {ob : Obj} {fd : FuncData} {body : List Stmt} {binds : List (Str × Value)} {pos : List Value} {nm gn : List Str} {Q : Value → Shared → Prop} {E : Value → Shared → Prop} {csOf : Nat → List (Str × Addr)}
    (a : Act w A env G outer) (S : St G Z vs (foot ++ rest) s) (hdep : A.depth < recursionLimit)
    (ho : (KK w).lookup f = some ob) (hd : ob.data = .func fd) (hb : fd.body = .stmts body) (hcd : codeIn (KK w) fd.code fd.qualname = true)
    (hbind : bindArgs fd ⟨pos, []⟩ = pure binds) (sc : scopeOkC fd binds nm gn = true) {vs₁ : List (Option Value)} (hvs : nm.map (fun x => (locsOf fd binds).reverse.lookup x) = vs₁)
    (hcs : ∀ n, cellsFrom n fd.scope.names [] = csOf n) (hlk : ∀ n, ∀ p ∈ csOf n, (csOf n).lookup p.1 = some p.2)
    (hkind : ∀ x ∈ binds, fd.scope.names.lookup x.1 = some .local ∨ (fd.scope.names.lookup x.1 = some .cell ∧ ∀ n, ((csOf n).lookup x.1).isSome = true))
    (h : ∀ A' env' G' s' cs, A'.depth = A.depth + 1 → A'.units = A.units + 3 → G' = mkG G.B s foot (G.L :: G.fr) Z nm gn → G'.nm = nm → G'.gn = gn → Act w A' env' G' (env :: outer) →
      env'.cells = cs → cs = csOf (s.heap.objs.size + 1) → env'.kindOf = (fun x => fd.scope.names.lookup x) → St G' Z vs₁ (cellMt s'.heap cs ++ foot) s' → (∀ p ∈ cs, ((s'.heap.get? p.2).getD default).data = .cell (bindC (fun x => fd.scope.names.lookup x) binds (fun _ => none) p.1)) →
      wpAny (model P w) A' (execs body env') (Back G G' vs rest Q) (fun _ _ => False) s') :
    wpAny (model P w) A (call (.ref f) pos) Q E s := by
  obtain ⟨c1, c2, c3, c4⟩ := scopeOkC.parts sc
  have kh := a.kh S
  obtain ⟨mean, mg, mb, T⟩ := a.top
  refine wpAny_call (codeAny_call_cells (fd := fd) (body := body) (binds := binds) hdep (kh _ _ ho) hd (T.nolimit.keeps (a.stays S)) (codeRec_of kh hcd) hb hbind c4 (by rw [hcs]; exact fun x hx => (hkind x hx).imp id fun q => ⟨q.1, q.2 _⟩) (fun s₁ I => ?_) c2 c3 c1)
  have e : (callEnvC fd s.heap.objs.size f).cells = csOf (s.heap.objs.size + 1) := hcs _
  obtain ⟨act, st, hc⟩ := enteredC a S sc hvs I (by rw [e]; exact hlk _)
  refine wpAny_mono (h _ _ _ _ _ rfl rfl rfl rfl rfl act rfl e rfl st hc) (fun fl s'' z => ?_) fun _ _ e => e.elim
  obtain ⟨S', k⟩ := z
  exact k (S.back rfl S')
theorem callG_cells {f : Addr} {ob : Obj} {fd : FuncData} {body : List Stmt} {binds : List (Str × Value)} {pos : List Value} {nm gn : List Str} {Q : Value → Shared → Prop} {csOf : Nat → List (Str × Addr)}
    (a : Act w A env G outer) (S : St G Z vs (foot ++ rest) s) (hdep : A.depth < recursionLimit)
    (ho : (KK w).lookup f = some ob) (hd : ob.data = .func fd) (hb : fd.body = .stmts body) (hcd : codeIn (KK w) fd.code fd.qualname = true)
    (hbind : bindArgs fd ⟨pos, []⟩ = pure binds) (sc : scopeOkC fd binds nm gn = true) {vs₁ : List (Option Value)} (hvs : nm.map (fun x => (locsOf fd binds).reverse.lookup x) = vs₁)
    (hcs : ∀ n, cellsFrom n fd.scope.names [] = csOf n) (hlk : ∀ n, ∀ p ∈ csOf n, (csOf n).lookup p.1 = some p.2)
    (hkind : ∀ x ∈ binds, fd.scope.names.lookup x.1 = some .local ∨ (fd.scope.names.lookup x.1 = some .cell ∧ ∀ n, ((csOf n).lookup x.1).isSome = true))
    (h : ∀ A' env' G' s' cs, A'.depth = A.depth + 1 → A'.units = A.units + 3 → G' = mkG G.B s foot (G.L :: G.fr) Z nm gn → G'.nm = nm → G'.gn = gn → Act w A' env' G' (env :: outer) →
      env'.cells = cs → cs = csOf (s.heap.objs.size + 1) → env'.kindOf = (fun x => fd.scope.names.lookup x) → St G' Z vs₁ (cellMt s'.heap cs ++ foot) s' → (∀ p ∈ cs, ((s'.heap.get? p.2).getD default).data = .cell (bindC (fun x => fd.scope.names.lookup x) binds (fun _ => none) p.1)) →
      WG (model P w) A' (execs body env') (Back G G' vs rest Q) s') :
    WG (model P w) A (call (.ref f) pos) Q s := by
  obtain ⟨c1, c2, c3, c4⟩ := scopeOkC.parts sc
  have kh := a.kh S
  obtain ⟨mean, mg, mb, T⟩ := a.top
  refine WG.call (CG.call_cells (fd := fd) (body := body) (binds := binds) hdep (kh _ _ ho) hd (T.nolimit.keeps (a.stays S)) (codeRec_of kh hcd) hb hbind c4 (by rw [hcs]; exact fun x hx => (hkind x hx).imp id fun q => ⟨q.1, q.2 _⟩) (fun s₁ I => ?_) c2 c3 c1)
  have e : (callEnvC fd s.heap.objs.size f).cells = csOf (s.heap.objs.size + 1) := hcs _
  obtain ⟨act, st, hc⟩ := enteredC a S sc hvs I (by rw [e]; exact hlk _)
  refine (h _ _ _ _ _ rfl rfl rfl rfl rfl act rfl e rfl st hc).mono fun fl s'' z => ?_
  obtain ⟨S', k⟩ := z
  exact k (S.back rfl S')
end
section
variable {w : World} {A : Around} {env : Env} {G : Gh} {outer : List Env} {Z : Zt} {vs : List (Option Value)} {mt : List (Addr × Obj)} {s : Shared} {E : Value → Shared → Prop}
theorem R_cell {x : Str} {pos : Pos} {c : Addr} {o : Obj} {v : Value} {Q : Value → Shared → Prop} (a : Act w A env G outer) (S : St G Z vs mt s) (hk : env.kindOf x = some .cell) (hc : env.cells.lookup x = some c) (hm : Has c o mt) (ho : o.data = .cell (some v)) (hd : (x == ("__debug__" : Str)) = false) (h : Q v s) :
    wpAny (model P w) A (eval (.Name x pos) env) Q E s := wpAny_Name (wpAny_loadName_cell a.knd hk hc ⟨_, S.has hm, ho⟩ h) hd
theorem S_cell {x : Str} {c : Addr} {o : Obj} {u : Option Value} {v : Value} {mt' : Obj → List (Addr × Obj)} {Q : Unit → Shared → Prop} (a : Act w A env G outer) (S : St G Z vs mt s) (hk : env.kindOf x = some .cell) (hc : env.cells.lookup x = some c) (hm : Has c o mt) (ho : o.data = .cell u) (hg : ∀ o', Chg c o o' mt (mt' o'))
    (h : ∀ o' s', o'.data = .cell (some v) → St G Z vs (mt' o') s' → Q () s') : wpAny (model P w) A (storeName env x v) Q E s :=
  wpAny_storeName_cell a.knd hk hc ⟨_, S.has hm, ho⟩ fun h' ⟨o', ho', hd'⟩ hs => h o' _ hd' (S.chg (tk := s.toks) (hg o') hs ho')
theorem X_assignC {x : Str} {xp pos : Pos} {value : PySem.Expr} {rest : List Stmt} {Q : Flow → Shared → Prop} (hs : swapsWith value (some (.Name x xp)) pos.line env = pure false)
    (h : wpAny (model P w) A (eval value env) (fun v s' => wpAny (model P w) A (storeName env x v) (fun _ s'' => wpAny (model P w) A (execs rest env) Q E s'') E s') E s) :
    wpAny (model P w) A (execs (.Assign [.Name x xp] value pos :: rest) env) Q E s := X_cons (wpAny_Assign_Name h hs)
end
open PySem
theorem low7 (m : Nat) (h : m < 128) : (128 + m) &&& 127 = m := by
  have : ∀ m : Nat, m < 128 → (128 + m) &&& 127 = m := by decide
  exact this m h
theorem and7 (m : Nat) (h : m < 128) : m &&& 127 = m := by
  have : ∀ m : Nat, m < 128 → m &&& 127 = m := by decide
  exact this m h
theorem or_add {f a i : Nat} (h : f < 2 ^ i) : f ||| (a <<< i) = f + a * 2 ^ i := by
  rw [Nat.or_comm, ← Nat.shiftLeft_add_eq_or_of_lt h, Nat.shiftLeft_eq, Nat.add_comm]
theorem rdN_enc : ∀ (k n : Nat) (pre suf : List UInt8) (f : Nat), k < 5 → n < 128 ^ (k + 1) → f < 2 ^ (7 * (4 - k)) → (k = 4 ∨ 0 < n) →
    rdN (pre ++ encN n ++ suf) (k + 1) pre.length f = .ok (f + n * 2 ^ (7 * (4 - k)), pre.length + (encN n).length) := by
  intro k
  induction k with
  | zero =>
    intro n pre suf f _ hn hf h0
    have h1 : n < 128 := by simpa using hn
    have e : encN n = [UInt8.ofNat n] := by rw [encN_eq, if_neg (by exact Nat.not_lt.mpr (lin1 h1 (by wtm_at "a")))]
    have hg : (pre ++ encN n ++ suf)[pre.length]? = some (UInt8.ofNat n) := by rw [e]; simp
    have ht : (UInt8.ofNat n).toNat = n := by simp; exact lin1 h1 (by wtm_at "a")
    unfold rdN
    rw [hg]
    dsimp only
    rw [ht, if_pos h1, if_neg (fun q => h0.elim (fun e => nomatch e) fun h => Nat.ne_of_gt h q.1), e, and7 n h1, or_add hf]
    rfl
  | succ k ih =>
    intro n pre suf f hk hn hf h0
    by_cases h1 : n > 127
    · have e : encN n = UInt8.ofNat (128 + n % 128) :: encN (n / 128) := by rw [encN_eq, if_pos h1]
      have hm : n % 128 < 128 := Nat.mod_lt _ (by decide)
      have hg : (pre ++ encN n ++ suf)[pre.length]? = some (UInt8.ofNat (128 + n % 128)) := by rw [e]; simp
      have ht : (UInt8.ofNat (128 + n % 128)).toNat = 128 + n % 128 := by rw [UInt8.toNat_ofNat']; exact Nat.mod_eq_of_lt (Nat.lt_of_lt_of_le (Nat.add_lt_add_left hm 128) (by decide))
      unfold rdN
      rw [hg]
      dsimp only
      rw [ht, if_neg (by exact Nat.not_lt.mpr ((by wtm_at "a"))), low7 _ hm, or_add hf]
      have el : pre ++ encN n ++ suf = (pre ++ [UInt8.ofNat (128 + n % 128)]) ++ encN (n / 128) ++ suf := by rw [e]; simp
      have ep : pre.length + 1 = (pre ++ [UInt8.ofNat (128 + n % 128)]).length := by simp
      have e7 : 7 * (4 - k) = 7 * (4 - (k + 1)) + 7 := congrArg (7 * ·) (Nat.sub_add_cancel (Nat.sub_pos_of_lt (Nat.lt_of_succ_lt_succ hk))).symm
      have hp : 2 ^ (7 * (4 - k)) = 128 * 2 ^ (7 * (4 - (k + 1))) := by rw [e7, Nat.pow_add, Nat.mul_comm]
      rw [el, ep, ih (n / 128) _ suf _ (by exact lin1 hk (by wtm_at "a")) (by rw [Nat.div_lt_iff_lt_mul (by decide), ← Nat.pow_succ]; exact hn) (by
        rw [hp]
        have : n % 128 * 2 ^ (7 * (4 - (k + 1))) ≤ 127 * 2 ^ (7 * (4 - (k + 1))) := Nat.mul_le_mul_right _ (Nat.le_of_lt_succ hm)
        exact lin2 hf this (by wtm_at "a")) (.inr (Nat.div_pos h1 (by decide)))]
      congr 1
      refine Prod.ext ?_ ?_
      · show f + n % 128 * 2 ^ (7 * (4 - (k + 1))) + n / 128 * 2 ^ (7 * (4 - k)) = f + n * 2 ^ (7 * (4 - (k + 1)))
        rw [hp, ← Nat.mul_assoc, Nat.add_assoc, ← Nat.add_mul]
        congr 2
        exact Nat.mod_add_div' n 128
      · show (pre ++ [UInt8.ofNat (128 + n % 128)]).length + (encN (n / 128)).length = pre.length + (encN n).length
        rw [e]
        simp only [List.length_append, List.length_cons, List.length_nil]
        exact Nat.le_antisymm ((by wtm_at "a")) ((by wtm_at "a"))
    · have e : encN n = [UInt8.ofNat n] := by rw [encN_eq, if_neg h1]
      have hg : (pre ++ encN n ++ suf)[pre.length]? = some (UInt8.ofNat n) := by rw [e]; simp
      have ht : (UInt8.ofNat n).toNat = n := by simp; exact lin1 (Nat.le_of_not_lt h1) (by wtm_at "a")
      unfold rdN
      rw [hg]
      dsimp only
      rw [ht, if_pos (by exact lin1 (Nat.le_of_not_lt h1) (by wtm_at "a")), if_neg (fun q => h0.elim (fun e => absurd q.2 (by rw [e]; decide)) fun h => Nat.ne_of_gt h q.1), e, and7 n (by exact lin1 (Nat.le_of_not_lt h1) (by wtm_at "a")), or_add hf]
      rfl
theorem rdNum_enc {n : Nat} (h : n < 2 ^ 35) (pre suf : List UInt8) : rdNum (pre ++ encN n ++ suf) pre.length = .ok (n, pre.length + (encN n).length) := by
  have := rdN_enc 4 n pre suf 0 (by decide) (by exact h) (by decide) (.inl rfl)
  unfold rdNum
  rw [this]
  simp
theorem rdNum_end (b : List UInt8) : rdNum b b.length = .error "a number breaks off" := by
  unfold rdNum rdN
  rw [List.getElem?_eq_none (Nat.le_refl _)]
theorem rdNum_at {b pre suf : List UInt8} {n p : Nat} (hb : b = pre ++ (encN n ++ suf)) (hp : p = pre.length) (h : n < 2 ^ 35) : rdNum b p = .ok (n, p + (encN n).length) := by
  subst hb hp
  rw [← List.append_assoc]
  exact rdNum_enc h pre suf
theorem closureFor_eq {scope : Scope} {env : Env} (f : Str → Addr) (h : ∀ x ∈ scope.names, x.2 = .free → env.cells.lookup x.1 = some (f x.1)) :
    closureFor scope env = pure ((scope.names.filter fun p => p.2 == .free).reverse.map fun p => (p.1, f p.1)) := by
  have key : ∀ (names : List (Str × NameKind)) (acc : List (Str × Addr)) (g : Str × NameKind → List (Str × Addr) → Sem (ForInStep (List (Str × Addr)))), (∀ n k cs, g (n, k) cs = if (k == .free) = true then (do let a ← cellOf env n; pure (.yield ((n, a) :: cs))) else pure (.yield cs)) →
      (∀ x ∈ names, x.2 = .free → env.cells.lookup x.1 = some (f x.1)) → forIn names acc g = (pure (((names.filter fun p => p.2 == .free).reverse.map fun p => (p.1, f p.1)) ++ acc) : Sem (List (Str × Addr))) := by
    intro names
    induction names with
    | nil => intro acc g hg hx; rfl
    | cons p r ih =>
      intro acc g hg hx
      obtain ⟨n, k⟩ := p
      have hr := fun acc => ih acc g hg fun x hx' => hx x (List.mem_cons_of_mem _ hx')
      rw [List.forIn_cons, hg]
      by_cases hk : (k == NameKind.free) = true
      · rw [if_pos hk]
        have hc : cellOf env n = pure (f n) := by
          unfold cellOf
          have := hx (n, k) List.mem_cons_self (eq_of_beq hk)
          rw [this]
        rw [hc]
        simp only [pure_bind]
        rw [hr]
        rw [List.filter_cons_of_pos (by exact hk)]
        simp
      · rw [if_neg hk]
        simp only [pure_bind]
        rw [hr]
        rw [List.filter_cons_of_neg (by exact hk)]
  unfold closureFor
  dsimp only
  rw [key scope.names [] _ (fun n k cs => rfl) h]
  simp
theorem relabel_cell {env : Env} {scope : Scope} {x : Str} (hk : env.scope.kind = .function) (hc : env.kindOf x = some .cell) (hl : scope.names.lookup x = some .free) : (relabel scope env).names.lookup x = some .cell := by
  have key : ∀ (names : List (Str × NameKind)), names.lookup x = some .free → (names.map fun (n, k) => if (k == NameKind.free && env.scope.kind == .function && env.kindOf n == some .cell) then (n, NameKind.cell) else (n, k)).lookup x = some .cell := by
    intro names
    induction names with
    | nil => intro h; cases h
    | cons p r ih =>
      intro h
      obtain ⟨n, k⟩ := p
      rw [List.lookup_cons] at h
      rw [List.map_cons]
      cases hx : x == n with
      | true =>
        rw [hx] at h
        cases h
        have e : x = n := eq_of_beq hx
        subst e
        simp [List.lookup_cons, hk, hc]
      | false =>
        rw [hx] at h
        dsimp only
        split <;> (rw [List.lookup_cons, hx]; exact ih h)
  exact key _ hl
section
variable {w : World} {A : Around} {env : Env} {G : Gh} {outer : List Env} {Z : Zt} {vs : List (Option Value)} {mt : List (Addr × Obj)} {s : Shared} {E : Value → Shared → Prop}
theorem C_free {scope : Scope} {cl : List (Str × Addr)} {C c : Addr} {o : Obj} {x : Str} {pos : Pos} {v : Value} {Q : Value → Shared → Prop} (a : Act w A env G outer) (S : St G Z vs mt s) (hkind : scope.kind = .function) (hx : scope.names.lookup x = some .free) (hk : env.kindOf x = some .cell)
    (hc : cl.lookup x = some c) (ho : Has c o mt) (hd : o.data = .cell (some v)) (hb : (x == ("__debug__" : Str)) = false) (h : Q v s) : wpAny (model P w) A (eval (.Name x pos) (compEnvC scope cl C env)) Q E s :=
  C_cell hkind (relabel_cell a.knd hk hx) hc (S.has ho) hd hb h
theorem R_powN {a n : Nat} {t u : Tok} {Q : Value → Shared → Prop} (S : St G Z vs mt s) (hn : n ≤ 1000000) (ha : a < 2 ^ 60) (h : ∀ t s', St G Z vs mt s' → Q (.int ((a ^ n : Nat) : Int) t) s') : wpAny (model P w) A (binaryOp .Pow (.int (a : Int) t) (.int (n : Int) u)) Q E s := by
  refine pow_int_small (by omega) (by omega) (by omega) ?_
  have := h s.toks { s with toks := s.toks + 1 } S.tok
  rw [show ((a ^ n : Nat) : Int) = (a : Int) ^ (n : Int).toNat by simp] at this
  exact this
theorem sw_cell {x y : Str} {xp yp tp p : Pos} {k k2 : Nat} {e1 e2 : PySem.Expr} (a : Act w A env G outer) (hy : env.kindOf y = some .cell)
    (hst : [e1, e2].any starry = false) : swappedStores [.Tuple [.Name x xp, .Name y yp] k tp] (.Tuple [e1, e2] k2 p) env = pure none := by
  refine (if_neg (Bool.eq_false_iff.mp (by rw [a.bk]; rfl))).trans ?_
  refine (if_neg (Bool.eq_false_iff.mp hst)).trans ?_
  have e : swNames env [.Name x xp, .Name y yp] = [] ∨ swNames env [.Name x xp, .Name y yp] = [x] := by
    have hn : (if (env.kindOf y == some .local && yp.line == xp.line) = true then some y else none) = none := if_neg (by rw [hy]; exact Bool.false_ne_true)
    unfold swNames
    by_cases hx : (env.kindOf x == some .local && xp.line == xp.line) = true
    · exact .inr ((List.filterMap_cons_some (a := PySem.Expr.Name x xp) (if_pos hx)).trans (congrArg (List.cons x) (List.filterMap_cons_none (a := PySem.Expr.Name y yp) hn)))
    · exact .inl ((List.filterMap_cons_none (a := PySem.Expr.Name x xp) (if_neg hx)).trans (List.filterMap_cons_none (a := PySem.Expr.Name y yp) hn))
  refine if_pos ?_
  show ((swNames env [.Name x xp, .Name y yp]).length != 2 || _) = true
  rcases e with e | e <;> rw [e] <;> rfl
theorem X_tpC {x y : Str} {xp yp tpos pos : Pos} {k : Nat} {value : PySem.Expr} {rest : List Stmt} {Q : Flow → Shared → Prop} (a : Act w A env G outer) {nm : List Str} (hnm : G.nm = nm)
    (hs : swapsWithSole [.Tuple [.Name x xp, .Name y yp] k tpos] value pos.line env = pure false) (hw : swappedStores [.Tuple [.Name x xp, .Name y yp] k tpos] value env = pure none)
    (h : wpAny (model P w) A (eval value env) (fun v s₁ => ∃ t Z' vs' mt' u1 u2 c vs1, v = .ref t ∧ St G Z' vs' mt' s₁ ∧ s₁.heap.get? t = some (To [u1, u2] c) ∧ Put nm vs' x u1 vs1 ∧
      ∀ s2, St G Z' vs1 mt' s2 → wpAny (model P w) A (storeName env y u2) (fun _ s3 => wpAny (model P w) A (execs rest env) Q E s3) E s2) E s) :
    wpAny (model P w) A (execs (.Assign [.Tuple [.Name x xp, .Name y yp] k tpos] value pos :: rest) env) Q E s := by
  refine X_atup hs hw (wpAny_mono h (fun v s₁ h₁ => ?_) fun _ _ e => e)
  obtain ⟨t, Z', vs', mt', u1, u2, c, vs1, rfl, S, ht, p1, k⟩ := h₁
  refine PySem.wpAny_assign_Tuple (items := #[u1, u2]) a.hnd ⟨_, ht, rfl, c, rfl⟩ rfl rfl fun h' hx => ?_
  have S' : St G Z' vs' mt' { s₁ with heap := h', toks := s₁.toks } := S.grow fun b o e => hx b o (fun q => by subst q; rw [no_size] at e; cases e) e
  refine wpAny_assignInOrder_more (T_name a S' hnm p1 fun s1 S1 => ?_)
  refine wpAny_assignInOrder_more (wpAny_assign_Name (wpAny_mono (k s1 S1) (fun _ s2 z => ?_) fun _ _ e => e))
  exact wpAny_assignInOrder_none z
end
section
variable {prog : Program} {w : World} {A : Around} {E : Value → Shared → Prop} {s : Shared}
theorem setItem_last {l : Addr} {items : List Value} {x v : Value} {n : Nat} {t : Tok} {Q : Unit → Shared → Prop} (hlo : s.heap.get? l = some (Lo (items ++ [x]) n))
    (hQ : ∀ h' n', h'.get? l = some (Lo (items ++ [v]) n') → Heap.SameBut l s.heap h' → Q () { s with heap := h' }) :
    wpAny (model prog w) A (setItem (.ref l) (.int (-1) t) v) Q E s := by
  have hl : s.heap.IsList l (items ++ [x]).toArray := ⟨_, hlo, rfl, n, rfl⟩
  unfold setItem
  try with_reducible refine wpAny_holding ?_
  first | refine wpAny_bind (wpAny_pure ?_) | skip
  refine wpAny_bind (wpAny_sequenceKey hl.typeIs (by decide) ?_)
  refine wpAny_bind (wpAny_callSpecial?_slot (name := Str.ofString "__setitem__") hl.typeIs slot_list_setitem
    (wpAny_call_entry slot_list_setitem hl.typeIs entry_list_setitem ?_ (args_list_setitem _ _ _)))
  show wpAny _ _ (Builtin.List.listSubscript? (.int (-1) t) >>= _) _ _ s
  refine wpAny_bind (wpAny_listSubscript_int (fitsIndex_neg (by decide) (by decide)) ?_)
  have hsz : (items ++ [x]).toArray.size = items.length + 1 := by simp
  have hidx : seqIndex? (-1) (items ++ [x]).toArray.size = some (-1 + ((items ++ [x]).toArray.size : Int)).toNat := seqIndex_neg (by decide) (by rw [hsz]; omega)
  have hk : (-1 + ((items ++ [x]).toArray.size : Int)).toNat = items.length := by rw [hsz]; omega
  rw [hk] at hidx
  have hx : (items ++ [x]).toArray[items.length]? = some x := by simp
  show wpAny _ _ ((Builtin.List.listItems (.ref l) >>= fun xs => pure ((seqIndex? (-1) xs.size).bind fun i => xs[i]?.map (i, ·))) >>= _) _ _ s
  refine wpAny_bind (wpAny_bind ?_)
  show wpAny _ _ (seqItems? (.ref l) >>= _) _ _ s
  refine wpAny_bind (wpAny_seqItems hlo rfl (wpAny_pure (wpAny_pure ?_)))
  rw [hidx]
  simp only [Option.bind_some, hx, Option.map_some]
  show wpAny _ _ (setSeqItemAt l items.length v >>= _) _ _ s
  have e : (items ++ [x]).toArray.setIfInBounds items.length v = (items ++ [v]).toArray := by simp
  have hfin : ∃ n', (s.heap.update l (Obj.mapSeq (·.setIfInBounds items.length v))).get? l = some (Lo (items ++ [v]) n') := by
    refine ⟨if ((items ++ [x]).toArray.setIfInBounds items.length v).size == (items ++ [x]).toArray.size then n else n + 1, (Heap.get?_update_self _ hlo rfl).trans ?_⟩
    show some ({ cls := .type "list", data := .seq ((items ++ [x]).toArray.setIfInBounds items.length v) (if ((items ++ [x]).toArray.setIfInBounds items.length v).size == (items ++ [x]).toArray.size then n else n + 1) } : Obj) = _
    rw [e]
  obtain ⟨n', hfin⟩ := hfin
  refine wpAny_bind (wpAny_setSeqItemAt hlo rfl ?_)
  first
    | exact wpAny_bind (wpAny_pure (wpAny_pure ⟨.none, rfl, wpAny_pure (hQ _ _ hfin (Heap.SameBut.update ..))⟩))
    | exact wpAny_pure ⟨.none, rfl, wpAny_pure (hQ _ _ hfin (Heap.SameBut.update ..))⟩
end
section
variable {w : World} {A : Around} {env : Env} {G : Gh} {outer : List Env} {Z : Zt} {vs : List (Option Value)} {mt : List (Addr × Obj)} {s : Shared} {E : Value → Shared → Prop}
theorem Act.kz (a : Act w A env G outer) (S : St G Z vs mt s) {b : Addr} {o : Obj} (h : (KK w).lookup b = some o) : Z b o := S.zs _ _ (a.zb _ _ (a.kin _ _ h))
theorem sw_comp {x : Str} {xp pos : Pos} {line : Nat} {elt : PySem.Expr} {gens : List Comprehension} {scope : Scope} (a : Act w A env G outer) (hk : env.kindOf x = some .local) (hl : (xp.line == pos.line) = true) (hn : (scope.names.any fun (n, k) => n == x && (k == .local || k == .cell)) = false) :
    swapsWith (.ListComp elt gens scope pos) (some (.Name x xp)) line env = pure true := by
  unfold swapsWith
  dsimp only
  have hl' : (xp.line == (PySem.Expr.ListComp elt gens scope pos).pos.line) = true := hl
  rw [a.bk, hk, hl', hn]
  rfl
theorem R_dictS {keys : List (Option PySem.Expr)} {values : List PySem.Expr} {pos : Pos} {Q : Value → Shared → Prop} (a : Act w A env G outer) (S : St G Z vs mt s) (hall : keys.all (·.isSome) = true) (hl : keys.length = values.length) (h0 : keys ≠ []) (hlen : keys.length ≤ 15)
    (h : ∀ d s₁, Fresh G Z d → (d == sysModules) = false → St G Z vs ((d, emptyDict) :: mt) s₁ → wpAny (model P w) A (evalPairs (pairTrees keys values env pos)) (fun us s₂ => ∃ kvs Z' vs' mt', Carries (strKind P w) us kvs ∧ St G Z' vs' ((d, emptyDict) :: mt') s₂ ∧
      ∀ oe s₃, oe.IsDictOf (strKind P w) (merged [] kvs) → St G Z' vs' ((d, oe) :: mt') s₃ → Q (.ref d) s₃) E s₁) : wpAny (model P w) A (eval (.Dict keys values pos) env) Q E s := by
  refine wpAny_Dict_walk (knd := strKind P w) hall hl h0 hlen ?_
  have hsys : (s.heap.objs.size == sysModules) = false := beq_eq_false_iff_ne.mpr fun e => by
    have := big a S
    have e' : s.heap.objs.size = 1 := e
    exact linF2 this (Nat.le_of_eq e') (by wtm_at "a")
  refine wpAny_mono (h _ _ (a.fresh S no_size) hsys (S.push a emptyDict rfl s.toks)) (fun us s₂ z => ?_) fun _ _ e => e
  obtain ⟨kvs, Z', vs', mt', hc, S', k⟩ := z
  refine ⟨kvs, hc, ?_, fun h' hm hs => ?_⟩
  · obtain ⟨oe, he, hd⟩ := Heap.dictOf_iff.mp (Heap.DictOf.new (knd := strKind P w) s.heap)
    have e2 : (s.heap.push emptyDict).get? s.heap.objs.size = some emptyDict := Heap.get?_push_size _ rfl
    have : oe = emptyDict := by
      have := he.symm.trans e2
      exact Option.some.inj this
    subst this
    exact Heap.dictOf_iff.mpr ⟨_, (S'.mu _ (.head _)).1, hd⟩
  · obtain ⟨oe, he, hd⟩ := Heap.dictOf_iff.mp hm
    exact k oe _ hd (S'.chg (tk := _) .here hs he)
theorem R_setLast {l : Addr} {xs : List Value} {n : Nat} {x v : Value} {t : Tok} {mt' : Obj → List (Addr × Obj)} {Q : Unit → Shared → Prop} (S : St G Z vs mt s) (hm : Has l (Lo (xs ++ [x]) n) mt) (c : ∀ o', Chg l (Lo (xs ++ [x]) n) o' mt (mt' o'))
    (h : ∀ n' s', St G Z vs (mt' (Lo (xs ++ [v]) n')) s' → Q () s') : wpAny (model P w) A (setItem (.ref l) (.int (-1) t) v) Q E s :=
  setItem_last (S.has hm) fun h' n' hl hs => h n' _ (S.chg (tk := s.toks) (c _) hs hl)
end
inductive TbK (Z : Zt) (T : Tb) (kvs : List (Str × Value)) : Prop
  | mk (vb vo vw vl vm vt : Value) : kvs = ([("bits", vb), ("bits octets", vo), ("worths", vw), ("lows", vl), ("mids", vm), ("top", vt)] : List (Str × Value)) →
  PairV Z vb T.bits → BytesV vo T.bo → BytesLV Z vw T.ws → StageV Z vl T.lows → StageV Z vm T.mids → RowV Z vt T.top → TbK Z T kvs
theorem TbO.k {w : World} {Z : Zt} {T : Tb} {o : Obj} : TbO w Z T o → ∃ kvs, TbK Z T kvs ∧ o.IsDictOf (strKind P w) kvs := by rintro ⟨vb, vo, vw, vl, vm, vt, a, b, c, d, e, f, g⟩; exact ⟨_, ⟨vb, vo, vw, vl, vm, vt, rfl, a, b, c, d, e, f⟩, g⟩
theorem TbK.o {w : World} {Z : Zt} {T : Tb} {o : Obj} {kvs : List (Str × Value)} : TbK Z T kvs → o.IsDictOf (strKind P w) kvs → TbO w Z T o := by rintro ⟨vb, vo, vw, vl, vm, vt, e, a, b, c, d, e', f⟩ g; exact ⟨vb, vo, vw, vl, vm, vt, a, b, c, d, e', f, e ▸ g⟩
theorem TbK.mono {Z Z' : Zt} {T : Tb} {kvs : List (Str × Value)} (k : ∀ a o, Z a o → Z' a o) : TbK Z T kvs → TbK Z' T kvs := by rintro ⟨vb, vo, vw, vl, vm, vt, e, a, b, c, d, e', f⟩; exact ⟨vb, vo, vw, vl, vm, vt, e, a.mono k, b, BytesLV.mono k c, StageV.mono k d, StageV.mono k e', RowV.mono k f⟩
theorem TbK.len {Z : Zt} {T : Tb} {kvs : List (Str × Value)} : TbK Z T kvs → kvs.length = 6 := by rintro ⟨_, _, _, _, _, _, e, _, _, _, _, _, _⟩; rw [e]; rfl
theorem set_bo {Z : Zt} {T : Tb} {v : Value} {x : List UInt8} (h : BytesV v x) (kvs : List (Str × Value)) : TbK Z T kvs → TbK Z { T with bo := x } (sto kvs "bits octets" v) := by rintro ⟨vb, vo, vw, vl, vm, vt, e, a, b, c, d, e', f⟩; exact ⟨vb, v, vw, vl, vm, vt, by rw [e]; rfl, a, h, c, d, e', f⟩
theorem set_ws {Z : Zt} {T : Tb} {v : Value} {x : List (List UInt8)} (h : BytesLV Z v x) (kvs : List (Str × Value)) : TbK Z T kvs → TbK Z { T with ws := x } (sto kvs "worths" v) := by rintro ⟨vb, vo, vw, vl, vm, vt, e, a, b, c, d, e', f⟩; exact ⟨vb, vo, v, vl, vm, vt, by rw [e]; rfl, a, b, h, d, e', f⟩
theorem set_lows {Z : Zt} {T : Tb} {v : Value} {x : List (List (Nat × Nat))} (h : StageV Z v x) (kvs : List (Str × Value)) : TbK Z T kvs → TbK Z { T with lows := x } (sto kvs "lows" v) := by rintro ⟨vb, vo, vw, vl, vm, vt, e, a, b, c, d, e', f⟩; exact ⟨vb, vo, vw, v, vm, vt, by rw [e]; rfl, a, b, c, h, e', f⟩
theorem set_mids {Z : Zt} {T : Tb} {v : Value} {x : List (List (Nat × Nat))} (h : StageV Z v x) (kvs : List (Str × Value)) : TbK Z T kvs → TbK Z { T with mids := x } (sto kvs "mids" v) := by rintro ⟨vb, vo, vw, vl, vm, vt, e, a, b, c, d, e', f⟩; exact ⟨vb, vo, vw, vl, v, vt, by rw [e]; rfl, a, b, c, d, h, f⟩
theorem set_top {Z : Zt} {T : Tb} {v : Value} {x : List (Nat × Nat)} (h : RowV Z v x) (kvs : List (Str × Value)) : TbK Z T kvs → TbK Z { T with top := x } (sto kvs "top" v) := by rintro ⟨vb, vo, vw, vl, vm, vt, e, a, b, c, d, e', f⟩; exact ⟨vb, vo, vw, vl, vm, v, by rw [e]; rfl, a, b, c, d, e', h⟩
section
variable {w : World} {A : Around} {env : Env} {G : Gh} {outer : List Env} {Z : Zt} {vs : List (Option Value)} {mt : List (Addr × Obj)} {s : Shared} {E Q : Value → Shared → Prop}
theorem St.weak {Z' : Zt} {vs' : List (Option Value)} {mt' : List (Addr × Obj)} {s' : Shared} (S : St G Z vs mt s) (S' : St G Z' vs' mt' s') (k : ∀ a o, Z a o → Z' a o) : St G Z vs' mt' s' :=
  { S' with z := fun a o q => S'.z a o (k a o q), zs := S.zs, zn := fun a o q => S'.zn a o (k a o q), zL := fun o q => S'.zL o (k _ o q), zF := fun a o q => S'.zF a o (k a o q), mu := fun p hp => ⟨(S'.mu p hp).1, (S'.mu p hp).2.1, (S'.mu p hp).2.2.1, (S'.mu p hp).2.2.2.1, fun o q => (S'.mu p hp).2.2.2.2 o (k _ o q)⟩ }
theorem R_dictOf {d : Addr} {o : Obj} {kvs : List (Str × Value)} (a : Act w A env G outer) (S : St G Z vs mt s) (hs : (d == sysModules) = false) (ho : s.heap.get? d = some o) (hd : o.IsDictOf (strKind P w) kvs) (hz : kvs.length ≤ sizeLine)
    (h : ∀ e oe s', oe.IsDictOf (strKind P w) kvs → Fresh G Z e → St G Z vs ((e, oe) :: mt) s' → Q (.ref e) s') : wpAny (model P w) A (call (.type "dict") [.ref d]) Q E s := by
  refine kt_call_dict hs (Heap.dictOf_iff.mpr ⟨o, ho, hd⟩) hz fun h' hm hb => ?_
  obtain ⟨oe, he, hd'⟩ := Heap.dictOf_iff.mp hm
  have S1 := S.push a { cls := .type "dict", data := .dict #[] } rfl s.toks
  exact h _ oe _ hd' (a.fresh S no_size) (S1.chg (tk := s.toks) .here hb he)
end
section
variable {w : World} {A : Around} {env : Env} {G : Gh} {outer : List Env} {Z : Zt} {vs : List (Option Value)} {mt : List (Addr × Obj)} {s : Shared} {E Q : Value → Shared → Prop}
theorem fn_with {d : Addr} {o : Obj} (T T' : Tb) {name : Str} {tn : Tok} {v : Value} (a : Act w A env G outer) (S : St G Z vs mt s) (hr : Room A 5) (hd : Z d o) (hs : (d == sysModules) = false) (hT : TbO w Z T o) (hset : ∀ kvs, TbK Z T kvs → TbK Z T' (sto kvs name v)) (ok : T'.Ok)
    (h : ∀ t s', St G Z vs mt s' → Q (.bytes (sealB (encBody T')).toArray t) s') : wpAny (model P w) A (call (.ref 404) [.ref d, .str name tn, v]) Q E s := by
  refine' call_def (f := 404) (foot := []) (rest := mt) (nm := ["w", "name", "part", "other"]) (gn := ["dict", "_law_sealed", "_law_body"]) (binds := [("w", .ref d), ("name", .str name tn), ("part", v)]) (vs₁ := [some (.ref d), some (.str name tn), some v, none]) (X := fun _ _ _ _ => False) a S ?hd ?ho ?k1 ?k2 ?k3 ?k4 ?k5 ?k6 ?h (fun _ _ _ _ _ _ _ h => h.elim)
  wtm_at "call"
  case hd => exact hr.dep
  case h =>
    intro A' env' G' s' dA uA hG hnm hgn a' S'
    have hr4 : Room A' 4 := hr.sub dA uA (by decide)
    have hr1 : Room A' 1 := hr.sub dA uA (by decide)
    obtain ⟨kvs, hK, hD⟩ := hT.k
    wtm_at "x"
    repeat wtm_at "v"
    refine R_dictOf a' (by assumption) hs (St.z (by assumption) _ _ hd) hD (by rw [hK.len, sizeLine_eq]; exact (by wtm_at "a")) fun e oe s1 hDe hf S1 => ?_
    wtm_at "set"
    rename_i s2 S2
    wtm_at "x"
    repeat wtm_at "v"
    refine set_dict S2 hDe (by rw [hK.len, sizeLine_eq]; exact (by wtm_at "a")) rfl fun o3 s3 hD3 S3 => ?_
    wtm_at "x"
    have S4 := S3.freeze hf.2
    repeat wtm_at "v"
    refine (KDef.mk S4 ?_)
    refine fn_body T' a' S4 hr4 (.inr ⟨rfl, rfl⟩) (((hset _ hK).mono fun a o q => .inl q).o hD3) ok fun t5 s5 S5 => ?_
    repeat wtm_at "v"
    refine (KDef.mk S5 ?_)
    refine fn_sealed _ a' S5 hr1 (by have := encBody_len ok; exact lin1 this (by wtm_at "a")) fun t6 s6 S6 => ?_
    refine (Back.mk S6 (fun S6 => h t6 _ (S.weak S6 fun a o q => .inl q)))
end
theorem KDef.val {G : Gh} {K : List Value → Shared → Prop} {us : List Value} {s : Shared} (h : KDef G K us s) : K us s := by obtain ⟨_, h⟩ := h; exact h
inductive Ix : List Str → Str → Nat → Prop
  | here {x : Str} {ns : List Str} : Ix (x :: ns) x 0
  | there {x n : Str} {i : Nat} {ns : List Str} : Ix ns x i → Ix (n :: ns) x (i + 1)
theorem Ix.get {ns : List Str} {x : Str} {i : Nat} (h : Ix ns x i) : ns[i]? = some x := by
  induction h with
  | here => rfl
  | there _ ih => exact ih
structure Cb (w : World) where
  A : Around
  env : Env
  G : Gh
  outer : List Env
  act : Act w A env G outer
structure Cx (w : World) where
  A : Around
  env : Env
  G : Gh
  outer : List Env
  base : Env
  act : Act w A base G outer
  lk : List (Option Value) → Str → Option Value
noncomputable abbrev Cb.g {w : World} (c : Cb w) : Cx w := ⟨c.A, c.env, c.G, c.outer, c.env, c.act, look c.G.nm⟩
noncomputable abbrev Cb.cp {w : World} (c : Cb w) (scope : Scope) (cl : List (Str × Addr)) (C : Addr) (m : Str → Option Value) : Cx w := ⟨c.A, compEnvC scope cl C c.env, c.G, c.outer, c.env, c.act, fun _ => m⟩
structure Ty where
  r : Zt → Value → Prop
  m : ∀ {Z Z' : Zt} {v : Value}, (∀ a o, Z a o → Z' a o) → r Z v → r Z' v
structure Ob where
  d : Addr
  r : Zt → Obj → Prop
  m : ∀ {Z Z' : Zt} {o : Obj}, (∀ a o, Z a o → Z' a o) → r Z o → r Z' o
inductive Obs (Z : Zt) : List Ob → List (Addr × Obj) → Prop
  | nil : Obs Z [] []
  | cons {b : Ob} {o : Obj} {bs : List Ob} {mt : List (Addr × Obj)} : b.r Z o → Obs Z bs mt → Obs Z (b :: bs) ((b.d, o) :: mt)
theorem Obs.up {Z Z' : Zt} {bs : List Ob} {mt : List (Addr × Obj)} (k : ∀ a o, Z a o → Z' a o) (h : Obs Z bs mt) : Obs Z' bs mt := by
  induction h with
  | nil => exact .nil
  | cons a _ ih => exact .cons (Ob.m _ k a) ih
inductive TL (Z : Zt) : List Ty → List Value → Prop
  | nil : TL Z [] []
  | cons {t : Ty} {v : Value} {ts : List Ty} {vs : List Value} : t.r Z v → TL Z ts vs → TL Z (t :: ts) (v :: vs)
theorem TL.up {Z Z' : Zt} {ts : List Ty} {vs : List Value} (k : ∀ a o, Z a o → Z' a o) (h : TL Z ts vs) : TL Z' ts vs := by
  induction h with
  | nil => exact .nil
  | cons a _ ih => exact .cons (Ty.m _ k a) ih
theorem TL.length {Z : Zt} {ts : List Ty} {vs : List Value} (h : TL Z ts vs) : vs.length = ts.length := by
  induction h with
  | nil => rfl
  | cons _ _ ih => rw [List.length_cons, List.length_cons, ih]
theorem TL.append {Z : Zt} {ts us : List Ty} {vs ws : List Value} (h : TL Z ts vs) (h' : TL Z us ws) : TL Z (ts ++ us) (vs ++ ws) := by
  induction h with
  | nil => exact h'
  | cons a _ ih => exact .cons a ih
theorem TL.take {Z : Zt} {ts : List Ty} {vs : List Value} (h : TL Z ts vs) : ∀ n, TL Z (ts.take n) (vs.take n) := by
  induction h with
  | nil => intro n; rw [List.take_nil, List.take_nil]; exact .nil
  | cons a _ ih => intro n; cases n with
    | zero => exact .nil
    | succ n => exact .cons a (ih n)
theorem TL.drop {Z : Zt} {ts : List Ty} {vs : List Value} (h : TL Z ts vs) : ∀ n, TL Z (ts.drop n) (vs.drop n) := by
  induction h with
  | nil => intro n; rw [List.drop_nil, List.drop_nil]; exact .nil
  | cons a h ih => intro n; cases n with
    | zero => exact .cons a h
    | succ n => exact ih n
theorem TL.get {Z : Zt} {ts : List Ty} {vs : List Value} (h : TL Z ts vs) : ∀ {i : Nat} {t : Ty}, ts[i]? = some t → ∃ v, vs[i]? = some v ∧ t.r Z v := by
  induction h with
  | nil => intro i t e; cases e
  | cons a _ ih => intro i t e; cases i with
    | zero => cases e; exact ⟨_, rfl, a⟩
    | succ i => exact ih e
theorem TL.all2 {α : Type} {Z : Zt} {f : α → Ty} {vs : List Value} {xs : List α} : TL Z (xs.map f) vs ↔ All2 (fun v x => (f x).r Z v) vs xs := by
  constructor
  · intro h
    induction xs generalizing vs with
    | nil => cases h; exact .nil
    | cons x xs ih => cases h with | cons a h => exact .cons a (ih h)
  · intro h
    induction h with
    | nil => exact .nil
    | cons a _ ih => exact .cons a ih
theorem TL.unsnoc {Z : Zt} {ts : List Ty} {t : Ty} {vs : List Value} (h : TL Z (ts ++ [t]) vs) : ∃ us u, vs = us ++ [u] ∧ TL Z ts us ∧ t.r Z u := by
  induction ts generalizing vs with
  | nil => cases h with | cons r h => cases h; exact ⟨[], _, rfl, .nil, r⟩
  | cons t' ts ih =>
    cases h with | cons r h =>
    obtain ⟨us, u, rfl, h1, h2⟩ := ih h
    exact ⟨_ :: us, u, rfl, .cons r h1, h2⟩
noncomputable def tN (n : Nat) : Ty := ⟨fun _ v => ∃ t, v = .int (n : Int) t, fun _ h => h⟩
noncomputable def tB (b : List UInt8) : Ty := ⟨fun _ v => ∃ t, v = .bytes b.toArray t, fun _ h => h⟩
noncomputable def tS (x : Str) : Ty := ⟨fun _ v => ∃ t, v = .str x t, fun _ h => h⟩
noncomputable def tNone : Ty := ⟨fun _ v => v = .none, fun _ h => h⟩
noncomputable def tBool (b : Bool) : Ty := ⟨fun _ v => v = .bool b, fun _ h => h⟩
noncomputable def tVal (u : Value) : Ty := ⟨fun _ v => v = u, fun _ h => h⟩
noncomputable def tTup (ts : List Ty) : Ty := ⟨fun Z v => ∃ a xs c, v = .ref a ∧ Z a (To xs c) ∧ TL Z ts xs, fun k ⟨a, xs, c, e, z, h⟩ => ⟨a, xs, c, e, k _ _ z, h.up k⟩⟩
noncomputable def tLs (ts : List Ty) : Ty := ⟨fun Z v => ∃ a xs c, v = .ref a ∧ Z a (Lo xs c) ∧ TL Z ts xs, fun k ⟨a, xs, c, e, z, h⟩ => ⟨a, xs, c, e, k _ _ z, h.up k⟩⟩
noncomputable def tPair (p : Nat × Nat) : Ty := tTup [tN p.1, tN p.2]
noncomputable def tRow (ps : List (Nat × Nat)) : Ty := tLs (ps.map tPair)
noncomputable def tStage (rows : List (List (Nat × Nat))) : Ty := tLs (rows.map tRow)
noncomputable def tBs (ws : List (List UInt8)) : Ty := tLs (ws.map tB)
theorem tPair_iff {Z : Zt} {p : Nat × Nat} {v : Value} : (tPair p).r Z v ↔ PairV Z v p := by
  constructor
  · rintro ⟨a, xs, c, rfl, z, h⟩
    cases h with | cons h1 h => cases h with | cons h2 h => cases h with | nil =>
      obtain ⟨t1, rfl⟩ := h1
      obtain ⟨t2, rfl⟩ := h2
      exact ⟨a, t1, t2, c, rfl, z⟩
  · rintro ⟨a, t1, t2, c, rfl, z⟩
    exact ⟨a, _, c, rfl, z, .cons ⟨t1, rfl⟩ (.cons ⟨t2, rfl⟩ .nil)⟩
theorem tLs_iff {α : Type} {Z : Zt} {f : α → Ty} {R : Value → α → Prop} {xs : List α} {v : Value} (k : ∀ v x, (f x).r Z v ↔ R v x) : (tLs (xs.map f)).r Z v ↔ ListV R Z v xs := by
  constructor
  · rintro ⟨a, vs, c, rfl, z, h⟩
    exact ⟨a, vs, c, rfl, z, (TL.all2.mp h).mono fun v x => (k v x).mp⟩
  · rintro ⟨a, vs, c, rfl, z, h⟩
    exact ⟨a, vs, c, rfl, z, TL.all2.mpr (h.mono fun v x => (k v x).mpr)⟩
theorem tRow_iff {Z : Zt} {ps : List (Nat × Nat)} {v : Value} : (tRow ps).r Z v ↔ RowV Z v ps := tLs_iff fun _ _ => tPair_iff
theorem tStage_iff {Z : Zt} {rows : List (List (Nat × Nat))} {v : Value} : (tStage rows).r Z v ↔ StageV Z v rows := tLs_iff fun _ _ => tRow_iff
theorem tBs_iff {Z : Zt} {ws : List (List UInt8)} {v : Value} : (tBs ws).r Z v ↔ BytesLV Z v ws := tLs_iff fun _ _ => Iff.rfl
noncomputable def tTb (w : World) (T : Tb) : Ty := ⟨fun Z v => ∃ d o, v = .ref d ∧ Z d o ∧ (d == sysModules) = false ∧ TbO w Z T o, fun k ⟨d, o, e, z, h, h'⟩ => ⟨d, o, e, k _ _ z, h, TbO.mono k h'⟩⟩
noncomputable def oWell (w : World) (d : Addr) (W : Well) : Ob := ⟨d, fun Z o => WellO w Z W o, fun k h => WellO.mono k h⟩
noncomputable def tRef (d : Addr) : Ty := tVal (.ref d)
structure Lc where
  ns : List Str
  ts : List Ty
noncomputable def Lc.Ok (L : Lc) (lk : List (Option Value) → Str → Option Value) (Z : Zt) (vs : List (Option Value)) : Prop := ∀ (i : Nat) (x : Str) (t : Ty), L.ns[i]? = some x → L.ts[i]? = some t → ∃ v, lk vs x = some v ∧ t.r Z v
theorem Lc.Ok.up {L : Lc} {nm : List (Option Value) → Str → Option Value} {Z Z' : Zt} {vs : List (Option Value)} (k : ∀ a o, Z a o → Z' a o) (h : L.Ok nm Z vs) : L.Ok nm Z' vs := fun i x t h1 h2 => let ⟨v, a, b⟩ := h i x t h1 h2; ⟨v, a, t.m k b⟩
structure Pre {w : World} (c : Cx w) (L : Lc) (ob : List Ob) (Z : Zt) (vs : List (Option Value)) (mt : List (Addr × Obj)) (s : Shared) : Prop where
  S : St c.G Z vs mt s
  l : L.Ok c.lk Z vs
  o : Obs Z ob mt
noncomputable def Po {w : World} (c : Cx w) (Z : Zt) (vs : List (Option Value)) (t : Ty) (ob : List Ob) (Q : Value → Shared → Prop) : Prop :=
  ∀ v Z' mt' s', (∀ a o, Z a o → Z' a o) → St c.G Z' vs mt' s' → Obs Z' ob mt' → t.r Z' v → Q v s'
theorem Po.up {w : World} {c : Cx w} {Z Z' : Zt} {vs : List (Option Value)} {t : Ty} {ob : List Ob} {Q : Value → Shared → Prop} (h : Po c Z vs t ob Q) (k : ∀ a o, Z a o → Z' a o) : Po c Z' vs t ob Q :=
  fun v Z2 mt s z S O r => h v Z2 mt s (fun _ _ q => z _ _ (k _ _ q)) S O r
theorem Po.at {w : World} {c : Cx w} {Z : Zt} {vs : List (Option Value)} {t : Ty} {ob : List Ob} {Q : Value → Shared → Prop} {v : Value} {mt : List (Addr × Obj)} {s : Shared} (h : Po c Z vs t ob Q) (S : St c.G Z vs mt s) (O : Obs Z ob mt) (r : t.r Z v) : Q v s := h v Z mt s (fun _ _ q => q) S O r
noncomputable def Ev {w : World} (c : Cx w) (L : Lc) (ob : List Ob) (e : PySem.Expr) (t : Ty) (ob' : List Ob) : Prop := ∀ Z vs mt s Q E, Pre c L ob Z vs mt s → Po c Z vs t ob' Q → wpAny (model P w) c.A (eval e c.env) Q E s
noncomputable def EvL {w : World} (c : Cx w) (L : Lc) (ob : List Ob) (es : List PySem.Expr) (ts : List Ty) (ob' : List Ob) : Prop := ∀ pos Z vs mt s Q E, Pre c L ob Z vs mt s →
  (∀ us Z' mt' s', (∀ a o, Z a o → Z' a o) → St c.G Z' vs mt' s' → Obs Z' ob' mt' → TL Z' ts us → Q us s') → wpAny (model P w) c.A (spliced (backTo pos (starEach es c.env))) Q E s
noncomputable def Op {w : World} (c : Cx w) (ts : List Ty) (f : List Value → Sem Value) (ob : List Ob) (t : Ty) (ob' : List Ob) : Prop := ∀ Z vs mt s us Q E, St c.G Z vs mt s → Obs Z ob mt → TL Z ts us → Po c Z vs t ob' Q → wpAny (model P w) c.A (f us) Q E s
noncomputable def Tq {w : World} (c : Cx w) (L : Lc) (ob : List Ob) (e : PySem.Expr) (p : Prop) [Decidable p] (ob' : List Ob) : Prop := ∀ Z vs mt s Q E, Pre c L ob Z vs mt s →
  (∀ Z' mt' s', (∀ a o, Z a o → Z' a o) → St c.G Z' vs mt' s' → Obs Z' ob' mt' → Q (decide p) s') → wpAny (model P w) c.A (isTrue e c.env (eval e c.env)) Q E s
section
variable {w : World} {c : Cx w} {L : Lc} {ob ob1 ob2 ob' : List Ob} {t t' t1 t2 : Ty} {pos : Pos}
theorem Ev.conv {e : PySem.Expr} (h : Ev c L ob e t ob') (k : ∀ Z v, t.r Z v → t'.r Z v) : Ev c L ob e t' ob' := fun Z vs mt s Q E p q => h Z vs mt s Q E p fun v Z' mt' s' z S O r => q v Z' mt' s' z S O (k _ _ r)
theorem Ev.cast {e : PySem.Expr} (h : Ev c L ob e t ob') (k : t = t') : Ev c L ob e t' ob' := k ▸ h
theorem look_mem {nm : List Str} {vs : List (Option Value)} {x : Str} {v : Value} (h : look nm vs x = some v) : x ∈ nm := by
  induction nm generalizing vs with
  | nil => cases vs <;> cases h
  | cons n ns ih => cases vs with
    | nil => cases h
    | cons u us =>
      unfold look at h
      split at h
      · rename_i e; rw [e]; exact .head _
      · exact .tail _ (ih h)
theorem Ev.loc {c : Cb w} {x : Str} {ns : List Str} {ts : List Ty} (i : Nat) (hi : Ix ns x i) (ht : ts[i]? = some t) : Ev c.g ⟨ns, ts⟩ ob (.Name x pos) t ob := by
  intro Z vs mt s Q E p q
  obtain ⟨v, hv, hr⟩ := p.l i x t hi.get ht
  have hm := look_mem hv
  have a := c.act
  exact wpAny_Name (wpAny_loadName_local a.knd (a.kloc x hm) (a.loc.symm ▸ p.S.ns) hv (q.at p.S p.o hr)) (beq_eq_false_iff_ne.mpr fun e => a.dbg.1 (e ▸ hm))
theorem Ev.nat {n : Nat} {k : Nat} : Ev c L ob (.Constant (.int (@OfNat.ofNat Int n (@instOfNat n))) k pos) (tN (@OfNat.ofNat Nat n (instOfNatNat n))) ob := fun Z vs mt s Q E p q => R_int p.S fun tk s' S' => q.at S' p.o ⟨tk, rfl⟩
theorem Ev.str {x : Str} {k : Nat} : Ev c L ob (.Constant (.str x) k pos) (tS x) ob := fun Z vs mt s Q E p q => R_str p.S fun tk s' S' => q.at S' p.o ⟨tk, rfl⟩
theorem Ev.bytes {x : List UInt8} {k : Nat} : Ev c L ob (.Constant (.bytes x) k pos) (tB x) ob := fun Z vs mt s Q E p q => R_bytes p.S fun tk s' S' => q.at S' p.o ⟨tk, rfl⟩
theorem Ev.boo {b : Bool} {k : Nat} : Ev c L ob (.Constant (.bool b) k pos) (tBool b) ob := fun Z vs mt s Q E p q => R_bool (q.at p.S p.o rfl)
theorem Ev.two {l r e : PySem.Expr} {f : Value → Value → Sem Value} (he : ∀ Q E s, wpAny (model P w) c.A (eval l c.env) (fun a s₁ => wpAny (model P w) c.A (eval r c.env) (fun b s₂ => wpAny (model P w) c.A (f a b) Q E s₂) E s₁) E s → wpAny (model P w) c.A (eval e c.env) Q E s)
    (h1 : Ev c L ob l t1 ob1) (h2 : Ev c L ob1 r t2 ob2)
    (h3 : ∀ Z vs mt s a b Q E, St c.G Z vs mt s → Obs Z ob2 mt → t1.r Z a → t2.r Z b → Po c Z vs t ob' Q → wpAny (model P w) c.A (f a b) Q E s) : Ev c L ob e t ob' := fun Z vs mt s Q E p q =>
  he _ _ _ (h1 Z vs mt s _ _ p fun a Z1 mt1 s1 z1 S1 O1 r1 => h2 Z1 vs mt1 s1 _ _ ⟨S1, p.l.up z1, O1⟩ fun b Z2 mt2 s2 z2 S2 O2 r2 =>
    h3 Z2 vs mt2 s2 a b _ _ S2 O2 (t1.m z2 r1) r2 ((q.up z1).up z2))
theorem Ev.bin {l r : PySem.Expr} {op : Operator} (h1 : Ev c L ob l t1 ob1) (h2 : Ev c L ob1 r t2 ob2)
    (h3 : ∀ Z vs mt s a b Q E, St c.G Z vs mt s → Obs Z ob2 mt → t1.r Z a → t2.r Z b → Po c Z vs t ob' Q → wpAny (model P w) c.A (binaryOp op a b) Q E s) : Ev c L ob (.BinOp l op r pos) t ob' :=
  Ev.two (fun _ _ _ h => wpAny_BinOp h) h1 h2 h3
theorem Ev.add {l r : PySem.Expr} {m n : Nat} (h1 : Ev c L ob l (tN m) ob1) (h2 : Ev c L ob1 r (tN n) ob2) : Ev c L ob (.BinOp l .Add r pos) (tN (m + n)) ob2 := by
  refine Ev.bin h1 h2 ?_
  rintro Z vs mt s a b Q E S O ⟨ta, rfl⟩ ⟨tb, rfl⟩ q
  exact R_add S fun tk s' S' => q.at S' O ⟨tk, by rw [Int.natCast_add]⟩
theorem Ev.sub {l r : PySem.Expr} {m n : Nat} (h1 : Ev c L ob l (tN m) ob1) (h2 : Ev c L ob1 r (tN n) ob2) (h : n ≤ m) : Ev c L ob (.BinOp l .Sub r pos) (tN (m - n)) ob2 := by
  refine Ev.bin h1 h2 ?_
  rintro Z vs mt s a b Q E S O ⟨ta, rfl⟩ ⟨tb, rfl⟩ q
  exact R_sub S fun tk s' S' => q.at S' O ⟨tk, by rw [Int.natCast_sub h]⟩
theorem Ev.mul {l r : PySem.Expr} {m n : Nat} (h1 : Ev c L ob l (tN m) ob1) (h2 : Ev c L ob1 r (tN n) ob2) (h : m < 2 ^ 64) : Ev c L ob (.BinOp l .Mult r pos) (tN (m * n)) ob2 := by
  refine Ev.bin h1 h2 ?_
  rintro Z vs mt s a b Q E S O ⟨ta, rfl⟩ ⟨tb, rfl⟩ q
  exact R_mulS S (by omega) (by omega) fun tk s' S' => q.at S' O ⟨tk, by rw [Int.natCast_mul]⟩
theorem Ev.mod {l r : PySem.Expr} {m n : Nat} (h1 : Ev c L ob l (tN m) ob1) (h2 : Ev c L ob1 r (tN n) ob2) (h : 0 < n) : Ev c L ob (.BinOp l .Mod r pos) (tN (m % n)) ob2 := by
  refine Ev.bin h1 h2 ?_
  rintro Z vs mt s a b Q E S O ⟨ta, rfl⟩ ⟨tb, rfl⟩ q
  exact R_modN S h fun tk s' S' => q.at S' O ⟨tk, rfl⟩
theorem Ev.fdiv {l r : PySem.Expr} {m n : Nat} (h1 : Ev c L ob l (tN m) ob1) (h2 : Ev c L ob1 r (tN n) ob2) (h : 0 < n) (h' : n < 2 ^ 30) : Ev c L ob (.BinOp l .FloorDiv r pos) (tN (m / n)) ob2 := by
  refine Ev.bin h1 h2 ?_
  rintro Z vs mt s a b Q E S O ⟨ta, rfl⟩ ⟨tb, rfl⟩ q
  exact R_fdivN S h h' fun tk s' S' => q.at S' O ⟨tk, rfl⟩
theorem Ev.pow {l r : PySem.Expr} {m n : Nat} (h1 : Ev c L ob l (tN m) ob1) (h2 : Ev c L ob1 r (tN n) ob2) (hm : m < 2 ^ 60) (hn : n ≤ 1000000) : Ev c L ob (.BinOp l .Pow r pos) (tN (m ^ n)) ob2 := by
  refine Ev.bin h1 h2 ?_
  rintro Z vs mt s a b Q E S O ⟨ta, rfl⟩ ⟨tb, rfl⟩ q
  exact R_powN S hn hm fun tk s' S' => q.at S' O ⟨tk, rfl⟩
theorem Ev.badd {l r : PySem.Expr} {m n : List UInt8} (h1 : Ev c L ob l (tB m) ob1) (h2 : Ev c L ob1 r (tB n) ob2) (h : m.length + n.length ≤ 16000000) : Ev c L ob (.BinOp l .Add r pos) (tB (m ++ n)) ob2 := by
  refine Ev.bin h1 h2 ?_
  rintro Z vs mt s a b Q E S O ⟨ta, rfl⟩ ⟨tb, rfl⟩ q
  exact R_badd S (by rw [sizeLine_eq]; exact lin1 h (by wtm_at "a")) fun tk s' S' => q.at S' O ⟨tk, rfl⟩
theorem Ev.ladd {l r : PySem.Expr} {ts us : List Ty} (h1 : Ev c L ob l (tLs ts) ob1) (h2 : Ev c L ob1 r (tLs us) ob2) (h : ts.length + us.length ≤ 16000000) : Ev c L ob (.BinOp l .Add r pos) (tLs (ts ++ us)) ob2 := by
  refine Ev.bin h1 h2 ?_
  rintro Z vs mt s a b Q E S O ⟨l1, xs, c1, rfl, z1, T1⟩ ⟨l2, ys, c2, rfl, z2, T2⟩ q
  exact R_addList c.act S (S.isListZ z1) (S.isListZ z2) (by rw [sizeLine_eq, T1.length, T2.length]; exact lin1 h (by wtm_at "a")) fun l' s' S' f =>
    q _ _ _ _ (fun _ _ z => .inl z) (S'.freeze f.2) (O.up fun _ _ z => .inl z) ⟨l', _, _, rfl, .inr ⟨rfl, rfl⟩, (T1.append T2).up fun _ _ z => .inl z⟩
theorem EvL.nil : EvL c L ob [] [] ob := fun pos Z vs mt s Q E p q => wpAny_items_nil (q _ _ _ _ (fun _ _ z => z) p.S p.o .nil)
theorem EvL.cons {e : PySem.Expr} {es : List PySem.Expr} {ts : List Ty} (he : starEach (e :: es) c.env = (false, eval e c.env) :: starEach es c.env) (h1 : Ev c L ob e t ob1) (h2 : EvL c L ob1 es ts ob') : EvL c L ob (e :: es) (t :: ts) ob' := fun pos Z vs mt s Q E p q =>
  V_items he (h1 Z vs mt s _ _ p fun a Z1 mt1 s1 z1 S1 O1 r1 => h2 pos Z1 vs mt1 s1 _ _ ⟨S1, p.l.up z1, O1⟩ fun us Z2 mt2 s2 z2 S2 O2 r2 => q _ _ _ _ (fun _ _ z => z2 _ _ (z1 _ _ z)) S2 O2 (.cons (t.m z2 r1) r2))
theorem Ev.list {es : List PySem.Expr} {ts : List Ty} (h : EvL c L ob es ts ob') (hl : ts.length ≤ 16000000) : Ev c L ob (.List es pos) (tLs ts) ob' := fun Z vs mt s Q E p q =>
  List_ (h pos Z vs mt s _ _ p fun us Z1 mt1 s1 z1 S1 O1 r1 => R_newList c.act S1 (by rw [sizeLine_eq, r1.length]; exact lin1 hl (by wtm_at "a")) fun l s' S' f =>
    q _ _ _ _ (fun _ _ z => .inl (z1 _ _ z)) (S'.freeze f.2) (O1.up fun _ _ z => .inl z) ⟨l, _, _, rfl, .inr ⟨rfl, rfl⟩, r1.up fun _ _ z => .inl z⟩)
theorem Ev.tup {es : List PySem.Expr} {ts : List Ty} {k : Nat} (h : EvL c L ob es ts ob') (hl : ts.length ≤ 16000000) : Ev c L ob (.Tuple es k pos) (tTup ts) ob' := fun Z vs mt s Q E p q =>
  PyProof.Rows.Tuple_ (h pos Z vs mt s _ _ p fun us Z1 mt1 s1 z1 S1 O1 r1 => R_newTuple c.act S1 (by rw [sizeLine_eq, r1.length]; exact lin1 hl (by wtm_at "a")) fun l s' S' f =>
    q _ _ _ _ (fun _ _ z => .inl (z1 _ _ z)) (S'.freeze f.2) (O1.up fun _ _ z => .inl z) ⟨l, _, _, rfl, .inr ⟨rfl, rfl⟩, r1.up fun _ _ z => .inl z⟩)
end
section
variable {w : World} {c : Cx w} {L : Lc} {ob ob1 ob2 ob' : List Ob} {t t' t1 t2 : Ty} {pos : Pos}
theorem Ev.sb {v i : PySem.Expr} (h1 : Ev c L ob v t1 ob1) (h2 : Ev c L ob1 i t2 ob2)
    (h3 : ∀ Z vs mt s a b Q E, St c.G Z vs mt s → Obs Z ob2 mt → t1.r Z a → t2.r Z b → Po c Z vs t ob' Q → wpAny (model P w) c.A (subscriptTail v i a b) Q E s) : Ev c L ob (.Subscript v i pos) t ob' :=
  Ev.two (fun _ _ _ h => V_sub h) h1 h2 h3
theorem Ev.tbI {e : PySem.Expr} {T : Tb} {x : Str} {k : Nat} {pos' : Pos} (h1 : Ev c L ob e (tTb w T) ob1)
    (hs : ∀ d tk, ∃ ops, subscripted (.Constant (.str x) k pos') false (.ref d) (.str x tk) = operate ops (getItem (.ref d) (.str x tk)))
    (hv : ∀ Z vb vo vw vl vm vt, PairV Z vb T.bits → BytesV vo T.bo → BytesLV Z vw T.ws → StageV Z vl T.lows → StageV Z vm T.mids → RowV Z vt T.top →
      ∃ v, lk ([("bits", vb), ("bits octets", vo), ("worths", vw), ("lows", vl), ("mids", vm), ("top", vt)] : List (Str × Value)) x = some v ∧ t.r Z v) : Ev c L ob (.Subscript e (.Constant (.str x) k pos') pos) t ob1 := by
  refine Ev.sb h1 Ev.str ?_
  rintro Z vs mt s a b Q E S O ⟨d, o, rfl, z, hd, vb, vo, vw, vl, vm, vt, b1, b2, b3, b4, b5, b6, ho⟩ ⟨tk, rfl⟩ q
  obtain ⟨ops, e'⟩ := hs d tk
  obtain ⟨v, hl, hr⟩ := hv Z vb vo vw vl vm vt b1 b2 b3 b4 b5 b6
  exact T_dict e' S (S.z _ _ z) ho hl fun s' S' => q.at S' O hr
theorem Ev.tbBits {e : PySem.Expr} {T : Tb} {k : Nat} {pos' : Pos} (h1 : Ev c L ob e (tTb w T) ob1) : Ev c L ob (.Subscript e (.Constant (.str "bits") k pos') pos) (tPair T.bits) ob1 :=
  Ev.tbI h1 (fun _ _ => ⟨_, rfl⟩) fun Z vb vo vw vl vm vt a b c d e f => ⟨_, by kernel_rfl, tPair_iff.mpr a⟩
theorem Ev.tbWs {e : PySem.Expr} {T : Tb} {k : Nat} {pos' : Pos} (h1 : Ev c L ob e (tTb w T) ob1) : Ev c L ob (.Subscript e (.Constant (.str "worths") k pos') pos) (tBs T.ws) ob1 :=
  Ev.tbI h1 (fun _ _ => ⟨_, rfl⟩) fun Z vb vo vw vl vm vt a b c d e f => ⟨_, by kernel_rfl, tBs_iff.mpr c⟩
theorem Ev.tbLows {e : PySem.Expr} {T : Tb} {k : Nat} {pos' : Pos} (h1 : Ev c L ob e (tTb w T) ob1) : Ev c L ob (.Subscript e (.Constant (.str "lows") k pos') pos) (tStage T.lows) ob1 :=
  Ev.tbI h1 (fun _ _ => ⟨_, rfl⟩) fun Z vb vo vw vl vm vt a b c d e f => ⟨_, by kernel_rfl, tStage_iff.mpr d⟩
theorem Ev.tbMids {e : PySem.Expr} {T : Tb} {k : Nat} {pos' : Pos} (h1 : Ev c L ob e (tTb w T) ob1) : Ev c L ob (.Subscript e (.Constant (.str "mids") k pos') pos) (tStage T.mids) ob1 :=
  Ev.tbI h1 (fun _ _ => ⟨_, rfl⟩) fun Z vb vo vw vl vm vt a b c d e f => ⟨_, by kernel_rfl, tStage_iff.mpr e⟩
theorem Ev.tbTop {e : PySem.Expr} {T : Tb} {k : Nat} {pos' : Pos} (h1 : Ev c L ob e (tTb w T) ob1) : Ev c L ob (.Subscript e (.Constant (.str "top") k pos') pos) (tRow T.top) ob1 :=
  Ev.tbI h1 (fun _ _ => ⟨_, rfl⟩) fun Z vb vo vw vl vm vt a b c d e f => ⟨_, by kernel_rfl, tRow_iff.mpr f⟩
theorem Ev.tupI {e ix : PySem.Expr} {ts : List Ty} {i : Nat} (h1 : Ev c L ob e (tTup ts) ob1) (h2 : Ev c L ob1 ix (tN i) ob2) (hi : ts[i]? = some t) (hl : ts.length ≤ 16000000)
    (hs : ∀ d k tk, ∃ ops, subscripted ix false (.ref d) (.int k tk) = operate ops (getItem (.ref d) (.int k tk))) : Ev c L ob (.Subscript e ix pos) t ob2 := by
  refine Ev.sb h1 h2 ?_
  rintro Z vs mt s a b Q E S O ⟨d, xs, n, rfl, z, T⟩ ⟨tk, rfl⟩ q
  obtain ⟨ops, e'⟩ := hs d i tk
  obtain ⟨v, hv, hr⟩ := T.get hi
  have := (List.getElem?_eq_some_iff.mp hi).1
  exact T_tup e' (S.z _ _ z) rfl (by exact lin2 (b := 9223372036854775808) hl this (by wtm_at "a")) hv (q.at S O hr)
theorem Ev.byteI {e ix : PySem.Expr} {b : List UInt8} {i : Nat} (h1 : Ev c L ob e (tB b) ob1) (h2 : Ev c L ob1 ix (tN i) ob2) (hi : i < b.length) (hl : b.length ≤ 16000000)
    (hs : ∀ d u k tk, ∃ ops, subscripted ix false (.bytes d u) (.int k tk) = operate ops (getItem (.bytes d u) (.int k tk))) : Ev c L ob (.Subscript e ix pos) (tN (b.getD i 0).toNat) ob2 := by
  refine Ev.sb h1 h2 ?_
  rintro Z vs mt s a b' Q E S O ⟨ta, rfl⟩ ⟨tk, rfl⟩ q
  obtain ⟨ops, e'⟩ := hs b.toArray ta i tk
  exact T_bytesI e' S (by exact lin1 hl (by wtm_at "a")) rfl hi fun tk' s' S' => q.at S' O ⟨tk', rfl⟩
noncomputable def EvP {w : World} (c : Cx w) (L : Lc) (ob : List Ob) (p : Option PySem.Expr) (hi : Option Int) (ob' : List Ob) : Prop := ∀ Z vs mt s Q E, Pre c L ob Z vs mt s →
  (∀ v Z' mt' s', (∀ a o, Z a o → Z' a o) → St c.G Z' vs mt' s' → Obs Z' ob' mt' → IsPart v hi → Q v s') → wpAny (model P w) c.A (evalPart p c.env) Q E s
theorem EvP.non : EvP c L ob none none ob := fun Z vs mt s Q E p q => V_nonePart (q _ _ _ _ (fun _ _ z => z) p.S p.o .none)
theorem EvP.nat {e : PySem.Expr} {n : Nat} (h : Ev c L ob e (tN n) ob1) (hn : n ≤ 16000000) : EvP c L ob (some e) (some (n : Int)) ob1 := fun Z vs mt s Q E p q => V_some (h Z vs mt s _ _ p fun v Z' mt' s' z S O ⟨tk, hv⟩ => q v Z' mt' s' z S O (hv ▸ .int _ _))
theorem EvP.neg1 {k : Nat} {p1 p2 : Pos} : EvP c L ob (some (.UnaryOp .USub (.Constant (.int 1) k p1) p2)) (some (-1)) ob := fun Z vs mt s Q E p q => by
  refine V_some (wpAny_UnaryOp (R_int p.S fun tk s' S' => R_neg S' fun tk s' S' => ?_))
  exact q _ _ _ _ (fun _ _ z => z) S' p.o (.int _ _)
theorem Ev.bcut {e : PySem.Expr} {lo hi : Option PySem.Expr} {b : List UInt8} {l u : Option Int} {p' : Pos} (h1 : Ev c L ob e (tB b) ob1) (h2 : EvP c L ob1 lo l ob2) (h3 : EvP c L ob2 hi u ob') (hz : b.length ≤ 16000000)
    (hs : ∀ b tk d, subscripted (.Slice lo hi none p') false (.bytes b tk) (.ref d) = operate [.ref d, .bytes b tk] (getItem (.bytes b tk) (.ref d))) :
    Ev c L ob (.Subscript e (.Slice lo hi none p') pos) (tB (cut b l u)) ob' := by
  intro Z vs mt s Q E p q
  refine V_sub (h1 Z vs mt s _ _ p ?_)
  rintro v Z1 mt1 s1 z1 S1 O1 ⟨tk, rfl⟩
  refine V_slice (h2 Z1 vs mt1 s1 _ _ ⟨S1, p.l.up z1, O1⟩ fun vl Z2 mt2 s2 z2 S2 O2 hl => h3 Z2 vs mt2 s2 _ _ ⟨S2, (p.l.up z1).up z2, O2⟩ fun vu Z3 mt3 s3 z3 S3 O3 hu => ?_)
  exact kba_turn (value' := .Name "_" ⟨0, 0, 0, 0⟩) (fun _ => rfl) (R_bcut c.act S3 hl hu (by rw [sizeLine_eq]; exact lin1 hz (by wtm_at "a")) (hs _ _ _) (fun t' s' S' => (((q.up z1).up z2).up z3).at S' O3 ⟨t', rfl⟩) (fun _ => rfl))
theorem Ev.lcut {e : PySem.Expr} {lo hi : Option PySem.Expr} {ts : List Ty} {l u : Option Int} {p' : Pos} (h1 : Ev c L ob e (tLs ts) ob1) (h2 : EvP c L ob1 lo l ob2) (h3 : EvP c L ob2 hi u ob') (hz : ts.length ≤ 16000000)
    (hs : ∀ b d, subscripted (.Slice lo hi none p') false (.ref b) (.ref d) = operate [.ref d, .ref b] (getItem (.ref b) (.ref d))) :
    Ev c L ob (.Subscript e (.Slice lo hi none p') pos) (tLs ((ts.drop (l.elim 0 (clipAt ts.length))).take (u.elim ts.length (clipAt ts.length) - l.elim 0 (clipAt ts.length)))) ob' := by
  intro Z vs mt s Q E p q
  refine V_sub (h1 Z vs mt s _ _ p ?_)
  rintro v Z1 mt1 s1 z1 S1 O1 ⟨d, xs, n, rfl, zd, T⟩
  refine V_slice (h2 Z1 vs mt1 s1 _ _ ⟨S1, p.l.up z1, O1⟩ fun vl Z2 mt2 s2 z2 S2 O2 hl => h3 Z2 vs mt2 s2 _ _ ⟨S2, (p.l.up z1).up z2, O2⟩ fun vu Z3 mt3 s3 z3 S3 O3 hu => ?_)
  refine kba_turn (value' := .Name "_" ⟨0, 0, 0, 0⟩) (fun _ => rfl) (R_lcut c.act S3 (S3.z _ _ (z3 _ _ (z2 _ _ zd))) hl hu (by rw [sizeLine_eq, T.length]; exact lin1 hz (by wtm_at "a")) (hs _ _) (fun l' s' S' f => ?_) (fun _ => rfl))
  rw [T.length] at S'
  exact q _ _ _ _ (fun _ _ z => .inl (z3 _ _ (z2 _ _ (z1 _ _ z)))) (S'.freeze f.2) (O3.up fun _ _ z => .inl z) ⟨l', _, _, rfl, .inr ⟨rfl, rfl⟩, ((T.drop _).take _).up fun _ _ z => .inl (z3 _ _ (z2 _ _ z))⟩
theorem Tq.cmp {l r : PySem.Expr} {op : CmpOp} {p : Prop} [Decidable p] (hm : behindInMarks op r = false) (h1 : Ev c L ob l t1 ob1) (h2 : Ev c L ob1 r t2 ob2)
    (h3 : ∀ Z vs mt s a b Q E, St c.G Z vs mt s → Obs Z ob2 mt → t1.r Z a → t2.r Z b → Q (.bool (decide p)) s → wpAny (model P w) c.A (compareOp op a b) Q E s) : Tq c L ob (.Compare l [op] [r] pos) p ob2 := fun Z vs mt s Q E p' q =>
  V_tcmp hm (h1 Z vs mt s _ _ p' fun a Z1 mt1 s1 z1 S1 O1 r1 => h2 Z1 vs mt1 s1 _ _ ⟨S1, p'.l.up z1, O1⟩ fun b Z2 mt2 s2 z2 S2 O2 r2 =>
    h3 Z2 vs mt2 s2 a b _ _ S2 O2 (t1.m z2 r1) r2 (wpAny_truthy_bool (q Z2 mt2 s2 (fun _ _ z => z2 _ _ (z1 _ _ z)) S2 O2)))
theorem Tq.eqN {l r : PySem.Expr} {m n : Nat} (hm : behindInMarks .Eq r = false) (h1 : Ev c L ob l (tN m) ob1) (h2 : Ev c L ob1 r (tN n) ob2) : Tq c L ob (.Compare l [.Eq] [r] pos) (m = n) ob2 := by
  refine Tq.cmp hm h1 h2 ?_
  rintro Z vs mt s a b Q E S O ⟨ta, rfl⟩ ⟨tb, rfl⟩ q
  refine eq_int ?_
  rw [show ((m : Int) == (n : Int)) = decide (m = n) by by_cases q : m = n <;> simp [q, Int.natCast_inj]]
  exact q
theorem Tq.ltN {l r : PySem.Expr} {m n : Nat} (hm : behindInMarks .Lt r = false) (h1 : Ev c L ob l (tN m) ob1) (h2 : Ev c L ob1 r (tN n) ob2) : Tq c L ob (.Compare l [.Lt] [r] pos) (m < n) ob2 := by
  refine Tq.cmp hm h1 h2 ?_
  rintro Z vs mt s a b Q E S O ⟨ta, rfl⟩ ⟨tb, rfl⟩ q
  refine lt_int ?_
  rw [show decide ((m : Int) < (n : Int)) = decide (m < n) by simp]
  exact q
theorem Tq.gtN {l r : PySem.Expr} {m n : Nat} (hm : behindInMarks .Gt r = false) (h1 : Ev c L ob l (tN m) ob1) (h2 : Ev c L ob1 r (tN n) ob2) : Tq c L ob (.Compare l [.Gt] [r] pos) (n < m) ob2 := by
  refine Tq.cmp hm h1 h2 ?_
  rintro Z vs mt s a b Q E S O ⟨ta, rfl⟩ ⟨tb, rfl⟩ q
  refine gt_int ?_
  rw [show decide ((m : Int) > (n : Int)) = decide (n < m) by simp]
  exact q
theorem Ev.ite {test a b : PySem.Expr} {p : Prop} [Decidable p] (h1 : Tq c L ob test p ob1) (h2 : p → Ev c L ob1 a t ob') (h3 : ¬ p → Ev c L ob1 b t ob') : Ev c L ob (.IfExp test a b pos) t ob' := by
  intro Z vs mt s Q E p' q
  refine wpAny_IfExp (h1 Z vs mt s _ _ p' fun Z1 mt1 s1 z1 S1 O1 => ?_)
  by_cases hp : p
  · rw [decide_eq_true hp, if_pos rfl]; exact h2 hp Z1 vs mt1 s1 _ _ ⟨S1, p'.l.up z1, O1⟩ (q.up z1)
  · rw [decide_eq_false hp, if_neg Bool.false_ne_true]; exact h3 hp Z1 vs mt1 s1 _ _ ⟨S1, p'.l.up z1, O1⟩ (q.up z1)
theorem Ev.cal {f x : Str} {es : List PySem.Expr} {e : PySem.Expr} {ts : List Ty} {fv : Value} {xp : Pos}
    (hf : ∀ Z vs mt s Q E, St c.G Z vs mt s → Q fv s → wpAny (model P w) c.A (eval (.Name x xp) c.env) Q E s)
    (hw : ∀ Z vs mt s Q E, St c.G Z vs mt s → wpAny (model P w) c.A (spliced (backTo pos (starEach (e :: es) c.env))) (KDef c.G fun us s₁ => wpAny (model P w) c.A (call fv us) Q E s₁) E s → wpAny (model P w) c.A (callWith pos fv [] (backTo pos (starEach (e :: es) c.env)) []) Q E s)
    (h : EvL c L ob (e :: es) ts ob1) (ho : Op c ts (fun us => PySem.call fv us) ob1 t ob') : Ev c L ob (.Call (.Name x xp) (e :: es) [] pos) t ob' := fun Z vs mt s Q E p q =>
  X_Name (hf Z vs mt s _ _ p.S (hw Z vs mt s _ _ p.S (h pos Z vs mt s _ _ p fun us Z1 mt1 s1 z1 S1 O1 T1 => KDef.mk S1 (ho Z1 vs mt1 s1 us _ _ S1 O1 T1 (q.up z1)))))
theorem Ev.cdef {c : Cb w} {x : Str} {es : List PySem.Expr} {e : PySem.Expr} {ts : List Ty} {f : Addr} {xp : Pos} {gn : List Str} (hgn : c.G.gn = gn) (hc : gn.contains x = true) (hx : nsIn (KK w) mainGlobals x = some (some (.ref f))) (hk : keepIn (KK w) (.ref f) = true)
    (he : starEach (e :: es) c.env = (false, eval e c.env) :: starEach es c.env) (hp : (backTo pos (starEach es c.env)).any (·.1) = false)
    (h : EvL c.g L ob (e :: es) ts ob1) (ho : Op c.g ts (fun us => PySem.call (.ref f) us) ob1 t ob') : Ev c.g L ob (.Call (.Name x xp) (e :: es) [] pos) t ob' :=
  Ev.cal (f := x) (fun Z vs mt s Q E S q => R_glob c.act S hgn hc hx q) (fun Z vs mt s Q E S k => V_fn c.act S hk he hp k) h ho
theorem Ev.cblt {c : Cb w} {x : Str} {es : List PySem.Expr} {e : PySem.Expr} {ts : List Ty} {id : String} {xp : Pos} {gn : List Str} (hgn : c.G.gn = gn) (hc : gn.contains x = true) (hx : nsIn (KK w) mainGlobals x = some none) (hb : bootBuiltins x = some (.builtin id)) (hn : x ≠ "__name__")
    (he : starEach (e :: es) c.env = (false, eval e c.env) :: starEach es c.env) (hp : (backTo pos (starEach es c.env)).any (·.1) = false)
    (h : EvL c.g L ob (e :: es) ts ob1) (ho : Op c.g ts (fun us => PySem.call (.builtin id) us) ob1 t ob') : Ev c.g L ob (.Call (.Name x xp) (e :: es) [] pos) t ob' :=
  Ev.cal (f := x) (fun Z vs mt s Q E S q => R_blt c.act S hgn hc hx hb hn q) (fun Z vs mt s Q E S k => V_cblt he hp (wpAny_mono k (fun _ _ z => z.val) fun _ _ e => e)) h ho
theorem Ev.ctype {c : Cb w} {x : Str} {es : List PySem.Expr} {e : PySem.Expr} {ts : List Ty} {T : String} {xp : Pos} {gn : List Str} (hgn : c.G.gn = gn) (hc : gn.contains x = true) (hx : nsIn (KK w) mainGlobals x = some none) (hb : bootBuiltins x = some (.type T)) (hn : x ≠ "__name__")
    (he : starEach (e :: es) c.env = (false, eval e c.env) :: starEach es c.env) (hp : (backTo pos (starEach es c.env)).any (·.1) = false)
    (h : EvL c.g L ob (e :: es) ts ob1) (ho : Op c.g ts (fun us => PySem.call (.type T) us) ob1 t ob') : Ev c.g L ob (.Call (.Name x xp) (e :: es) [] pos) t ob' :=
  Ev.cal (f := x) (fun Z vs mt s Q E S q => R_blt c.act S hgn hc hx hb hn q) (fun Z vs mt s Q E S k => V_ctype he hp (wpAny_mono k (fun _ _ z => z.val) fun _ _ e => e)) h ho
theorem Op.len {ts : List Ty} (hz : ts.length ≤ 16000000) : Op c [tLs ts] (fun us => PySem.call (.builtin "len") us) ob (tN ts.length) ob := by
  rintro Z vs mt s us Q E S O (_ | ⟨⟨d, xs, n, rfl, z, T⟩, (_ | _)⟩) q
  exact R_len S z (by rw [sizeLine_eq, T.length]; exact lin1 hz (by wtm_at "a")) fun tk s' S' => q.at S' O ⟨tk, by rw [T.length]⟩
theorem Op.lenB {b : List UInt8} (hz : b.length ≤ 16000000) : Op c [tB b] (fun us => PySem.call (.builtin "len") us) ob (tN b.length) ob := by
  rintro Z vs mt s us Q E S O (_ | ⟨⟨tk, rfl⟩, (_ | _)⟩) q
  exact R_lenB S (by rw [sizeLine_eq]; exact lin1 hz (by wtm_at "a")) fun tk s' S' => q.at S' O ⟨tk, rfl⟩
theorem ints_of {ns : List Nat} {Z : Zt} {xs : List Value} (T : TL Z (ns.map tN) xs) : IntsAre xs (ns.map fun n : Nat => (n : Int)) := by
  induction ns generalizing xs with
  | nil => cases T; exact .nil
  | cons n ns ih => cases T with | cons h T => obtain ⟨tk, rfl⟩ := h; exact .cons _ _ (ih T)
theorem byteArr_nat {ns : List Nat} (h : ∀ n ∈ ns, n < 256) : byteArr (ns.map fun n : Nat => (n : Int)) = (ns.map Nat.toUInt8).toArray := by
  simp [byteArr, Function.comp_def]
theorem Op.bytesL {ns : List Nat} (hb : ∀ n ∈ ns, n < 256) (hz : ns.length ≤ 16000000) : Op c [tLs (ns.map tN)] (fun us => PySem.call (.type "bytes") us) ob (tB (ns.map Nat.toUInt8)) ob := by
  rintro Z vs mt s us Q E S O (_ | ⟨⟨d, xs, n, rfl, z, T⟩, (_ | _)⟩) q
  refine R_bytesL c.act S (S.isListZ z) (ints_of T) (fun n hn => ?_) (by rw [sizeLine_eq, T.length, List.length_map]; exact lin1 hz (by wtm_at "a")) fun tk s' S' => ?_
  · obtain ⟨m, hm, rfl⟩ := List.mem_map.mp hn
    have := hb m hm; omega
  · rw [byteArr_nat hb]; exact q.at S' O ⟨tk, rfl⟩
theorem Op.number {k : Nat} (hr : Room c.A 1) (hk : k < 2 ^ 63) : Op c [tN k] (fun us => PySem.call (.ref 347) us) ob (tB (encN k)) ob := by
  rintro Z vs mt s us Q E S O (_ | ⟨⟨tk, rfl⟩, (_ | _)⟩) q
  exact fn_number k c.act S hr rfl hk fun tk s' S' => q.at S' O ⟨tk, rfl⟩
theorem Op.values {ws : List (List UInt8)} (hr : Room c.A 3) (hn : ws.length ≤ 100) (hb : ∀ r ∈ ws, r.length ≤ 1000) : Op c [tBs ws] (fun us => PySem.call (.ref 364) us) ob (tB (encVals ws)) ob := by
  rintro Z vs mt s us Q E S O (_ | ⟨h, (_ | _)⟩) q
  exact fn_values ws c.act S hr (tBs_iff.mp h) hn hb fun tk s' S' => q.at S' O ⟨tk, rfl⟩
theorem Op.body {T : Tb} (hr : Room c.A 4) (ok : T.Ok) : Op c [tTb w T] (fun us => PySem.call (.ref 371) us) ob (tB (encBody T)) ob := by
  rintro Z vs mt s us Q E S O (_ | ⟨⟨d, o, rfl, z, hd, h⟩, (_ | _)⟩) q
  exact fn_body T c.act S hr z h ok fun tk s' S' => q.at S' O ⟨tk, rfl⟩
theorem Op.sealed {b : List UInt8} (hr : Room c.A 1) (hz : b.length ≤ 16000000) : Op c [tB b] (fun us => PySem.call (.ref 378) us) ob (tB (sealB b)) ob := by
  rintro Z vs mt s us Q E S O (_ | ⟨⟨tk, rfl⟩, (_ | _)⟩) q
  exact fn_sealed b c.act S hr hz fun tk s' S' => q.at S' O ⟨tk, rfl⟩
theorem Op.draw {d : Addr} {W : Well} {many n : Nat} (hr : Room c.A 1) (hk : W.Ok n) (hn : n ≤ 1000) (hm : 0 < many) : Op c [tRef d, tN many] (fun us => PySem.call (.ref 340) us) (oWell w d W :: ob) (tN (W.draw many)) (oWell w d W.next :: ob) := by
  rintro Z vs mt s us Q E S O (_ | ⟨rfl, (_ | ⟨⟨tk, rfl⟩, (_ | _)⟩)⟩) q
  cases O with | cons hW O =>
  exact fn_draw many c.act S hr hW hk hn hm fun o' tk s' hW' S' => q.at S' (.cons (b := oWell w d W.next) hW' O) ⟨tk, rfl⟩
theorem Op.with_ {T T' : Tb} {name : Str} (hr : Room c.A 5) (hset : ∀ Z v kvs, t.r Z v → TbK Z T kvs → TbK Z T' (sto kvs name v)) (ok : T'.Ok) : Op c [tTb w T, tS name, t] (fun us => PySem.call (.ref 404) us) ob (tB (sealB (encBody T'))) ob := by
  rintro Z vs mt s us Q E S O (_ | ⟨⟨d, o, rfl, z, hd, h⟩, (_ | ⟨⟨tk, rfl⟩, (_ | ⟨hv, (_ | _)⟩)⟩)⟩) q
  exact fn_with T T' c.act S hr z hd h (fun kvs => hset _ _ kvs hv) ok fun tk s' S' => q.at S' O ⟨tk, rfl⟩
end
theorem Ix.put {nm : List Str} {x : Str} {j : Nat} (h : Ix nm x j) {v : Value} : ∀ {vs : List (Option Value)}, vs.length = nm.length → Put nm vs x v (vs.set j (some v)) := by
  induction h with
  | here => intro vs e; cases vs with
    | nil => cases e
    | cons u us => exact .here
  | there _ ih => intro vs e; cases vs with
    | nil => cases e
    | cons u us => exact .there (ih (by simpa using e))
theorem Lc.Ok.put {ns : List Str} {ts : List Ty} {t : Ty} {nm : List Str} {Z : Zt} {vs : List (Option Value)} {x : Str} {j : Nat} {v : Value} (h : Lc.Ok ⟨ns, ts⟩ (look nm) Z vs) (nd : nm.Nodup) (hl : vs.length = nm.length) (hj : Ix nm x j) (hn : ns.contains x = false) (hv : t.r Z v) :
    Lc.Ok ⟨x :: ns, t :: ts⟩ (look nm) Z (vs.set j (some v)) := by
  have e := look_set (v := some v) nd hl hj.get
  intro i y t' h1 h2
  rw [← e]
  cases i with
  | zero => cases h1; cases h2; exact ⟨v, if_pos rfl, hv⟩
  | succ i =>
    obtain ⟨u, a, b⟩ := h i y t' h1 h2
    refine ⟨u, ?_, b⟩
    show (if y = x then some v else look nm vs y) = some u
    rw [if_neg]
    · exact a
    · rintro rfl
      have : ns.contains y = true := List.contains_iff_mem.mpr (List.mem_of_getElem? (l := ns) h1)
      rw [this] at hn
      cases hn
section
variable {w : World} {c : Cx w} {L : Lc} {ob ob1 ob2 ob' : List Ob} {t t' t1 t2 t3 : Ty} {pos : Pos} {ns : List Str} {ts : List Ty} {rest : List Stmt}
noncomputable def Bd {w : World} (c : Cb w) (L : Lc) (ob : List Ob) (body : List Stmt) (t : Ty) (ob' : List Ob) : Prop := ∀ Z vs mt s (K : Flow → Shared → Prop) E, Pre c.g L ob Z vs mt s →
  (∀ v Z' vs' mt' s', (∀ a o, Z a o → Z' a o) → St c.G Z' vs' mt' s' → Obs Z' ob' mt' → t.r Z' v → K (.ret v) s') → wpAny (model P w) c.A (execs body c.env) K E s
theorem Bd.ret {c : Cb w} {e : PySem.Expr} (h : Ev c.g L ob e t ob') : Bd c L ob (.Return (some e) pos :: rest) t ob' := fun Z vs mt s K E p q => X_ret (h Z vs mt s _ _ p fun v Z' mt' s' z S O r => q v Z' vs mt' s' z S O r)
theorem Bd.set {c : Cb w} {x : Str} {xp : Pos} {e : PySem.Expr} {nm : List Str} {j : Nat} (hnm : c.G.nm = nm) (hj : Ix nm x j) (hn : ns.contains x = false) (hs : swapsWith e (some (.Name x xp)) pos.line c.env = pure false)
    (h1 : Ev c.g ⟨ns, ts⟩ ob e t1 ob1) (h2 : Bd c ⟨x :: ns, t1 :: ts⟩ ob1 rest t ob') : Bd c ⟨ns, ts⟩ ob (.Assign [.Name x xp] e pos :: rest) t ob' := by
  intro Z vs mt s K E p q
  have nd := c.act.nd
  refine X_assign c.act hnm hs (h1 Z vs mt s _ _ p fun v Z1 mt1 s1 z1 S1 O1 r1 => ?_)
  rw [hnm] at nd
  have hl : vs.length = nm.length := hnm ▸ S1.len
  refine KSet.mk S1 (hj.put hl) fun s2 S2 => h2 Z1 _ mt1 s2 K E ⟨S2, ?_, O1⟩ fun v Z' vs' mt' s' z => q v Z' vs' mt' s' fun _ _ k => z _ _ (z1 _ _ k)
  have hL : Lc.Ok ⟨ns, ts⟩ (look c.G.nm) Z1 vs := p.l.up z1
  show Lc.Ok _ (look c.G.nm) _ _
  rw [hnm] at hL ⊢
  exact hL.put nd hl hj hn r1
theorem Bd.sw3 {c : Cb w} {x y z : Str} {xp yp zp tp : Pos} {k : Nat} {e : PySem.Expr} {nm : List Str} {i j l : Nat} (hnm : c.G.nm = nm) (hi : Ix nm x i) (hj : Ix nm y j) (hl : Ix nm z l) (nx : (y :: z :: ns).contains x = false) (ny : (z :: ns).contains y = false) (nz : ns.contains z = false)
    (hs : swapsWithSole [.Tuple [.Name x xp, .Name y yp, .Name z zp] k tp] e pos.line c.env = pure false) (hw : swappedStores [.Tuple [.Name x xp, .Name y yp, .Name z zp] k tp] e c.env = pure (some [x, y, z]))
    (h1 : Ev c.g ⟨ns, ts⟩ ob e (tTup [t1, t2, t3]) ob1) (h2 : Bd c ⟨x :: y :: z :: ns, t1 :: t2 :: t3 :: ts⟩ ob1 rest t ob') : Bd c ⟨ns, ts⟩ ob (.Assign [.Tuple [.Name x xp, .Name y yp, .Name z zp] k tp] e pos :: rest) t ob' := by
  intro Z vs mt s K E p q
  have nd := c.act.nd
  refine X_sw3 c.act hnm hs hw (h1 Z vs mt s _ _ p ?_)
  rintro v Z1 mt1 s1 z1 S1 O1 ⟨a, xs, m, rfl, za, T⟩
  obtain _ | ⟨r1, _ | ⟨r2, _ | ⟨r3, _ | _⟩⟩⟩ := T
  rw [hnm] at nd
  have ln : vs.length = nm.length := hnm ▸ S1.len
  have hL : Lc.Ok ⟨ns, ts⟩ (look c.G.nm) Z1 vs := p.l.up z1
  have ln1 : ∀ v, (vs.set l (some v)).length = nm.length := fun v => by rw [List.length_set, ln]
  have ln2 : ∀ v u, ((vs.set l (some v)).set j (some u)).length = nm.length := fun v u => by rw [List.length_set, List.length_set, ln]
  refine ⟨a, Z1, vs, mt1, _, _, _, m, _, _, _, rfl, S1, S1.z _ _ za, hl.put ln, hj.put (ln1 _), hi.put (ln2 _ _), fun s2 S2 => h2 Z1 _ mt1 s2 K E ⟨S2, ?_, O1⟩ fun v Z' vs' mt' s' z => q v Z' vs' mt' s' fun _ _ k => z _ _ (z1 _ _ k)⟩
  show Lc.Ok _ (look c.G.nm) _ _
  rw [hnm] at hL ⊢
  exact ((hL.put nd ln hl nz r3).put nd (ln1 _) hj ny r2).put nd (ln2 _ _) hi nx r1
theorem Bd.sw2 {c : Cb w} {x y : Str} {xp yp tp : Pos} {k : Nat} {e : PySem.Expr} {nm : List Str} {i j : Nat} (hnm : c.G.nm = nm) (hi : Ix nm x i) (hj : Ix nm y j) (nx : (y :: ns).contains x = false) (ny : ns.contains y = false)
    (hs : swapsWithSole [.Tuple [.Name x xp, .Name y yp] k tp] e pos.line c.env = pure false) (hw : swappedStores [.Tuple [.Name x xp, .Name y yp] k tp] e c.env = pure (some [x, y]))
    (h1 : Ev c.g ⟨ns, ts⟩ ob e (tTup [t1, t2]) ob1) (h2 : Bd c ⟨x :: y :: ns, t1 :: t2 :: ts⟩ ob1 rest t ob') : Bd c ⟨ns, ts⟩ ob (.Assign [.Tuple [.Name x xp, .Name y yp] k tp] e pos :: rest) t ob' := by
  intro Z vs mt s K E p q
  have nd := c.act.nd
  refine X_sw2 c.act hnm hs hw (h1 Z vs mt s _ _ p ?_)
  rintro v Z1 mt1 s1 z1 S1 O1 ⟨a, xs, m, rfl, za, T⟩
  obtain _ | ⟨r1, _ | ⟨r2, _ | _⟩⟩ := T
  rw [hnm] at nd
  have ln : vs.length = nm.length := hnm ▸ S1.len
  have hL : Lc.Ok ⟨ns, ts⟩ (look c.G.nm) Z1 vs := p.l.up z1
  have ln1 : ∀ v, (vs.set j (some v)).length = nm.length := fun v => by rw [List.length_set, ln]
  refine ⟨a, Z1, vs, mt1, _, _, m, _, _, rfl, S1, S1.z _ _ za, hj.put ln, hi.put (ln1 _), fun s2 S2 => h2 Z1 _ mt1 s2 K E ⟨S2, ?_, O1⟩ fun v Z' vs' mt' s' z => q v Z' vs' mt' s' fun _ _ k => z _ _ (z1 _ _ k)⟩
  show Lc.Ok _ (look c.G.nm) _ _
  rw [hnm] at hL ⊢
  exact (hL.put nd ln hj ny r2).put nd (ln1 _) hi nx r1
theorem Bd.ifr {c : Cb w} {test : PySem.Expr} {body : List Stmt} {p : Prop} [Decidable p] (h1 : Tq c.g L ob test p ob1) (h2 : p → Bd c L ob1 body t ob') (h3 : ¬ p → Bd c L ob1 rest t ob') : Bd c L ob (.If test body [] pos :: rest) t ob' := by
  intro Z vs mt s K E p' q
  refine X_if (h1 Z vs mt s _ _ p' fun Z1 mt1 s1 z1 S1 O1 => ?_)
  by_cases hp : p
  · rw [decide_eq_true hp, if_pos rfl]; exact h2 hp Z1 vs mt1 s1 _ _ ⟨S1, p'.l.up z1, O1⟩ fun v Z' vs' mt' s' z S O r => Nx.ret (q v Z' vs' mt' s' (fun _ _ k => z _ _ (z1 _ _ k)) S O r)
  · rw [decide_eq_false hp, if_neg Bool.false_ne_true]; exact X_nil (Nx.next (h3 hp Z1 vs mt1 s1 _ _ ⟨S1, p'.l.up z1, O1⟩ fun v Z' vs' mt' s' z S O r => q v Z' vs' mt' s' (fun _ _ k => z _ _ (z1 _ _ k)) S O r))
theorem Ev.number {c : Cb w} {e : PySem.Expr} {xp : Pos} {gn : List Str} {k : Nat} (hgn : c.G.gn = gn) (hc : gn.contains "_law_number" = true) (hr : Room c.A 1) (he : starEach [e] c.env = (false, eval e c.env) :: starEach [] c.env) (h : Ev c.g L ob e (tN k) ob1) (hk : k < 2 ^ 63) :
    Ev c.g L ob (.Call (.Name "_law_number" xp) [e] [] pos) (tB (encN k)) ob1 := Ev.cdef (f := 347) hgn hc (by wtm_at "kis") (by kernel_rfl) he rfl (.cons he h .nil) (Op.number hr hk)
theorem Ev.values {c : Cb w} {e : PySem.Expr} {xp : Pos} {gn : List Str} {ws : List (List UInt8)} (hgn : c.G.gn = gn) (hc : gn.contains "_law_values" = true) (hr : Room c.A 3) (he : starEach [e] c.env = (false, eval e c.env) :: starEach [] c.env) (h : Ev c.g L ob e (tBs ws) ob1) (hn : ws.length ≤ 100) (hb : ∀ r ∈ ws, r.length ≤ 1000) :
    Ev c.g L ob (.Call (.Name "_law_values" xp) [e] [] pos) (tB (encVals ws)) ob1 := Ev.cdef (f := 364) hgn hc (by wtm_at "kis") (by kernel_rfl) he rfl (.cons he h .nil) (Op.values hr hn hb)
theorem Ev.body {c : Cb w} {e : PySem.Expr} {xp : Pos} {gn : List Str} {T : Tb} (hgn : c.G.gn = gn) (hc : gn.contains "_law_body" = true) (hr : Room c.A 4) (he : starEach [e] c.env = (false, eval e c.env) :: starEach [] c.env) (h : Ev c.g L ob e (tTb w T) ob1) (ok : T.Ok) :
    Ev c.g L ob (.Call (.Name "_law_body" xp) [e] [] pos) (tB (encBody T)) ob1 := Ev.cdef (f := 371) hgn hc (by wtm_at "kis") (by kernel_rfl) he rfl (.cons he h .nil) (Op.body hr ok)
theorem Ev.sealed {c : Cb w} {e : PySem.Expr} {xp : Pos} {gn : List Str} {b : List UInt8} (hgn : c.G.gn = gn) (hc : gn.contains "_law_sealed" = true) (hr : Room c.A 1) (he : starEach [e] c.env = (false, eval e c.env) :: starEach [] c.env) (h : Ev c.g L ob e (tB b) ob1) (hz : b.length ≤ 16000000) :
    Ev c.g L ob (.Call (.Name "_law_sealed" xp) [e] [] pos) (tB (sealB b)) ob1 := Ev.cdef (f := 378) hgn hc (by wtm_at "kis") (by kernel_rfl) he rfl (.cons he h .nil) (Op.sealed hr hz)
theorem Ev.draw {c : Cb w} {e1 e2 : PySem.Expr} {xp : Pos} {gn : List Str} {d : Addr} {W : Well} {many n : Nat} (hgn : c.G.gn = gn) (hc : gn.contains "_law_draw" = true) (hr : Room c.A 1) (he : starEach [e1, e2] c.env = (false, eval e1 c.env) :: starEach [e2] c.env) (he2 : starEach [e2] c.env = (false, eval e2 c.env) :: starEach [] c.env) (h1 : Ev c.g L (oWell w d W :: ob) e1 (tRef d) (oWell w d W :: ob)) (h2 : Ev c.g L (oWell w d W :: ob) e2 (tN many) (oWell w d W :: ob)) (hk : W.Ok n) (hn : n ≤ 1000) (hm : 0 < many) :
    Ev c.g L (oWell w d W :: ob) (.Call (.Name "_law_draw" xp) [e1, e2] [] pos) (tN (W.draw many)) (oWell w d W.next :: ob) := Ev.cdef (f := 340) hgn hc (by wtm_at "kis") (by kernel_rfl) he (by rw [he2]; rfl) (.cons he h1 (.cons he2 h2 .nil)) (Op.draw hr hk hn hm)
theorem Ev.with_ {c : Cb w} {e1 e2 : PySem.Expr} {xp pos' : Pos} {gn : List Str} {name : Str} {k : Nat} {T T' : Tb} (hgn : c.G.gn = gn) (hc : gn.contains "_law_with" = true) (hr : Room c.A 5) (he : starEach [e1, .Constant (.str name) k pos', e2] c.env = (false, eval e1 c.env) :: starEach [.Constant (.str name) k pos', e2] c.env) (he2 : starEach [e2] c.env = (false, eval e2 c.env) :: starEach [] c.env)
    (h1 : Ev c.g L ob e1 (tTb w T) ob) (h2 : Ev c.g L ob e2 t ob1) (hset : ∀ Z v kvs, t.r Z v → TbK Z T kvs → TbK Z T' (sto kvs name v)) (ok : T'.Ok) :
    Ev c.g L ob (.Call (.Name "_law_with" xp) [e1, .Constant (.str name) k pos', e2] [] pos) (tB (sealB (encBody T'))) ob1 := Ev.cdef (f := 404) hgn hc (by wtm_at "kis") (by kernel_rfl) he (by show (backTo pos ((false, _) :: starEach [e2] c.env)).any (·.1) = false; rw [he2]; rfl) (.cons he h1 (.cons rfl Ev.str (.cons he2 h2 .nil))) (Op.with_ hr hset ok)
theorem Ev.lenB {c : Cb w} {e : PySem.Expr} {xp : Pos} {gn : List Str} {b : List UInt8} (hgn : c.G.gn = gn) (hc : gn.contains "len" = true) (he : starEach [e] c.env = (false, eval e c.env) :: starEach [] c.env) (h : Ev c.g L ob e (tB b) ob1) (hz : b.length ≤ 16000000) :
    Ev c.g L ob (.Call (.Name "len" xp) [e] [] pos) (tN b.length) ob1 := Ev.cblt (id := "len") hgn hc (by wtm_at "kis") (by boot_by_name) (by decide) he rfl (.cons he h .nil) (Op.lenB hz)
theorem Ev.len {c : Cb w} {e : PySem.Expr} {xp : Pos} {gn : List Str} {us : List Ty} (hgn : c.G.gn = gn) (hc : gn.contains "len" = true) (he : starEach [e] c.env = (false, eval e c.env) :: starEach [] c.env) (h : Ev c.g L ob e (tLs us) ob1) (hz : us.length ≤ 16000000) :
    Ev c.g L ob (.Call (.Name "len" xp) [e] [] pos) (tN us.length) ob1 := Ev.cblt (id := "len") hgn hc (by wtm_at "kis") (by boot_by_name) (by decide) he rfl (.cons he h .nil) (Op.len hz)
theorem Ev.bytesL {c : Cb w} {e : PySem.Expr} {xp : Pos} {gn : List Str} {ns : List Nat} (hgn : c.G.gn = gn) (hc : gn.contains "bytes" = true) (he : starEach [e] c.env = (false, eval e c.env) :: starEach [] c.env) (h : Ev c.g L ob e (tLs (ns.map tN)) ob1) (hb : ∀ n ∈ ns, n < 256) (hz : ns.length ≤ 16000000) :
    Ev c.g L ob (.Call (.Name "bytes" xp) [e] [] pos) (tB (ns.map Nat.toUInt8)) ob1 := Ev.ctype (T := "bytes") hgn hc (by wtm_at "kis") (by boot_by_name) (by decide) he rfl (.cons he h .nil) (Op.bytesL hb hz)
end
section
variable {w : World} {A : Around} {env : Env} {G : Gh} {outer : List Env} {Z : Zt} {vs : List (Option Value)} {mt foot rest : List (Addr × Obj)} {s : Shared} {E : Value → Shared → Prop}
theorem call_T {f : Addr} {obj : Obj} {fd : FuncData} {body : List Stmt} {binds : List (Str × Value)} {args : List Value} {nm gn : List Str} {Q : Value → Shared → Prop} {ns : List Str} {ts : List Ty} {ob ob' : List Ob} {t : Ty} {n m : Nat}
    (a : Act w A env G outer) (S : St G Z vs (foot ++ rest) s) (O : Obs Z ob foot) (hr : Room A n) (hm : m + 1 ≤ n)
    (ho : (KK w).lookup f = some obj) (hd : obj.data = .func fd) (hb : fd.body = .stmts body) (hcd : codeIn (KK w) fd.code fd.qualname = true)
    (hbind : bindArgs fd ⟨args, []⟩ = pure binds) (sc : scopeOk fd binds nm gn = true) (hL : Lc.Ok ⟨ns, ts⟩ (look nm) Z (nm.map (fun x => binds.reverse.lookup x)))
    (h : ∀ c : Cb w, Room c.A m → c.G.nm = nm → c.G.gn = gn → Bd c ⟨ns, ts⟩ ob body t ob')
    (hQ : ∀ v Z' mt' s', (∀ a o, Z a o → Z' a o) → St G Z' vs (mt' ++ rest) s' → Obs Z' ob' mt' → t.r Z' v → Q v s') : wpAny (model P w) A (call (.ref f) args) Q E s := by
  refine call_def (X := fun _ _ _ _ => False) a S hr.dep ho hd hb hcd hbind sc rfl (fun A' env' G' s' dA uA hG hnm hgn a' S' => ?_) (fun _ _ _ _ _ _ _ h => h.elim)
  refine h ⟨A', env', G', _, a'⟩ (hr.sub dA uA hm) hnm hgn Z _ foot s' _ _ ⟨S', hnm ▸ hL, O⟩ fun v Z' vs' mt' s'' z S2 O2 r => Back.mk S2 fun S3 => hQ v Z' mt' s'' z S3 O2 r
end
theorem cut_m1 (b : List UInt8) : cut b none (some (-1)) = b.dropLast := by
  unfold cut
  simp only [Option.elim]
  rw [List.dropLast_eq_take, List.drop_zero]
  congr 1
  unfold clipAt
  rw [if_pos (by decide)]
  generalize b.length = n
  cases n with
  | zero => rfl
  | succ n =>
    rw [show (-1 : Int) + ((n + 1 : Nat) : Int) = (n : Int) by omega, Int.min_eq_left (Int.ofNat_le.mpr (Nat.le_succ n)), Int.max_eq_right (Int.natCast_nonneg n)]
    rfl
theorem lcut_from {α : Type} (l : List α) (n : Nat) : (l.drop ((some (n : Int)).elim 0 (clipAt l.length))).take ((none : Option Int).elim l.length (clipAt l.length) - (some (n : Int)).elim 0 (clipAt l.length)) = l.drop n := by
  simp only [Option.elim, clipAt_nat]
  rcases Nat.le_total n l.length with h | h
  · rw [Nat.min_eq_left h, List.take_of_length_le (by simp)]
  · rw [Nat.min_eq_right h, Nat.sub_self, List.take_zero, List.drop_of_length_le h]
theorem lcut_upto {α : Type} (l : List α) (n : Nat) : (l.drop ((none : Option Int).elim 0 (clipAt l.length))).take ((some (n : Int)).elim l.length (clipAt l.length) - (none : Option Int).elim 0 (clipAt l.length)) = l.take n := by
  simp only [Option.elim, clipAt_nat, List.drop_zero, Nat.sub_zero]
  rw [List.take_eq_take_iff]; omega
noncomputable def oWells (w : World) (d : Addr) (n : Nat) : Ob := ⟨d, fun Z o => ∃ W, W.Ok n ∧ WellO w Z W o, fun k ⟨W, h, h'⟩ => ⟨W, h, WellO.mono k h'⟩⟩
section
variable {w : World} {A : Around} {env : Env} {G : Gh} {outer : List Env} {Z : Zt} {vs : List (Option Value)} {mt : List (Addr × Obj)} {s : Shared} {E : Value → Shared → Prop}
theorem R_sum {l : Addr} {xs : List Value} {ns : List Int} {Q : Value → Shared → Prop} (a : Act w A env G outer) (S : St G Z vs mt s) (hl : s.heap.IsList l xs.toArray) (hi : IntsAre xs ns)
    (h : ∀ t s', St G Z vs mt s' → Q (.int ns.sum t) s') : wpAny (model P w) A (call (.builtin "sum") [.ref l]) Q E s := by
  obtain ⟨ys, hx⟩ := hi.allInts.items
  have hl' : s.heap.IsList l (intItems ys) := hx ▸ hl
  refine sum_intListG a.hnd hl' fun h' tk t' hk => ?_
  have e1 : ns = ys.toList.map (·.1) := by
    rw [← nums_intItems, ← hx]
    exact (show numsOf xs.toArray.toList = ns from hi.numsOf).symm
  have e2 : preSum (numAt ys) ys.size = ns.sum := by
    rw [preSum_eq, List.take_of_length_le (by simp), e1]
  rw [e2]
  exact h _ _ (S.grow hk)
theorem C_turn2 {scope : Scope} {cl : List (Str × Addr)} {C t : Addr} {x y : Str} {xp yp tp : Pos} {k n : Nat} {u v : Value} {m : Str → Option Value} {oC : Obj} {elt : PySem.Expr} {K : Value → Shared → Prop} {K2 : Shared → Prop} (a : Act w A env G outer) (S : St G Z vs ((C, oC) :: mt) s) (ht : Z t (To [u, v] n)) (hn : NsO m oC) (hkind : scope.kind = .function)
    (hx : scope.names.lookup x = some .local) (hy : scope.names.lookup y = some .local) (hxy : x ≠ y)
    (h : ∀ m' oC' s', NsO m' oC' → m' x = some u → m' y = some v → St G Z vs ((C, oC') :: mt) s' → wpAny (model P w) A (eval elt (compEnvC scope cl C env)) K E s') :
    wpAny (model P w) A (assign (.Tuple [.Name x xp, .Name y yp] k tp) (compEnvC scope cl C env) (.ref t)) (fun _ s1 => wpAny (model P w) A (testsOf [] (compEnvC scope cl C env)) (fun ok s2 => if ok = true then wpAny (model P w) A (eval elt (compEnvC scope cl C env)) K E s2 else K2 s2) E s1) E s := by
  refine PySem.wpAny_assign_Tuple (items := #[u, v]) a.hnd ⟨_, S.z _ _ ht, rfl, n, rfl⟩ rfl rfl fun h' hx' => ?_
  have S' : St G Z vs ((C, oC) :: mt) { s with heap := h', toks := s.toks } := S.grow fun b o e => hx' b o (fun q => by subst q; rw [no_size] at e; cases e) e
  refine wpAny_assignInOrder_more (wpAny_assign_Name (C_set S' hn hkind hx fun m1 oC1 s1 n1 hm1 _ S1 => ?_))
  refine wpAny_assignInOrder_more (wpAny_assign_Name (C_set S1 n1 hkind hy fun m2 oC2 s2 n2 hm2 hk2 S2 => ?_))
  refine wpAny_assignInOrder_none (wpAny_tests_nil ?_)
  rw [if_pos rfl]
  exact h m2 oC2 s2 n2 ((hk2 x hxy).trans hm1) hm2 S2
end
section
variable {w : World} {c : Cx w} {L : Lc} {ob ob1 ob2 ob' : List Ob} {t t' t1 t2 t3 : Ty} {pos p' : Pos} {ns : List Str} {ts : List Ty} {rest : List Stmt}
theorem sl_bytes {lo hi : Option PySem.Expr} (b : Array UInt8) (tk : Tok) (d : Addr) : subscripted (.Slice lo hi none p') false (.bytes b tk) (.ref d) = operate [.ref d, .bytes b tk] (getItem (.bytes b tk) (.ref d)) := rfl
theorem sl_list {lo hi : Option PySem.Expr} (b d : Addr) : subscripted (.Slice lo hi none p') false (.ref b) (.ref d) = operate [.ref d, .ref b] (getItem (.ref b) (.ref d)) := rfl
theorem Ev.bupto {e hi : PySem.Expr} {b : List UInt8} {n : Nat} (h1 : Ev c L ob e (tB b) ob1) (h2 : Ev c L ob1 hi (tN n) ob2) (hn : n ≤ 16000000) (hz : b.length ≤ 16000000) : Ev c L ob (.Subscript e (.Slice none (some hi) none p') pos) (tB (b.take n)) ob2 :=
  (Ev.bcut h1 EvP.non (EvP.nat h2 hn) hz sl_bytes).cast (by rw [cut_upto])
theorem Ev.bfrom {e lo : PySem.Expr} {b : List UInt8} {n : Nat} (h1 : Ev c L ob e (tB b) ob1) (h2 : Ev c L ob1 lo (tN n) ob2) (hn : n ≤ 16000000) (hz : b.length ≤ 16000000) : Ev c L ob (.Subscript e (.Slice (some lo) none none p') pos) (tB (b.drop n)) ob2 :=
  (Ev.bcut h1 (EvP.nat h2 hn) EvP.non hz sl_bytes).cast (by rw [cut_from])
theorem Ev.bm1 {e : PySem.Expr} {b : List UInt8} {k : Nat} {p1 p2 : Pos} (h1 : Ev c L ob e (tB b) ob1) (hz : b.length ≤ 16000000) : Ev c L ob (.Subscript e (.Slice none (some (.UnaryOp .USub (.Constant (.int 1) k p1) p2)) none p') pos) (tB b.dropLast) ob1 :=
  (Ev.bcut h1 EvP.non EvP.neg1 hz sl_bytes).cast (by rw [cut_m1])
theorem Ev.lfrom {e lo : PySem.Expr} {us : List Ty} {n : Nat} (h1 : Ev c L ob e (tLs us) ob1) (h2 : Ev c L ob1 lo (tN n) ob2) (hn : n ≤ 16000000) (hz : us.length ≤ 16000000) : Ev c L ob (.Subscript e (.Slice (some lo) none none p') pos) (tLs (us.drop n)) ob2 :=
  (Ev.lcut h1 (EvP.nat h2 hn) EvP.non hz sl_list).cast (by rw [lcut_from])
theorem Ev.lupto {e hi : PySem.Expr} {us : List Ty} {n : Nat} (h1 : Ev c L ob e (tLs us) ob1) (h2 : Ev c L ob1 hi (tN n) ob2) (hn : n ≤ 16000000) (hz : us.length ≤ 16000000) : Ev c L ob (.Subscript e (.Slice none (some hi) none p') pos) (tLs (us.take n)) ob2 :=
  (Ev.lcut h1 EvP.non (EvP.nat h2 hn) hz sl_list).cast (by rw [lcut_upto])
theorem Op.sum {ns : List Nat} : Op c [tLs (ns.map tN)] (fun us => PySem.call (.builtin "sum") us) ob (tN ns.sum) ob := by
  rintro Z vs mt s us Q E S O (_ | ⟨⟨d, xs, n, rfl, z, T⟩, (_ | _)⟩) q
  refine R_sum c.act S (S.isListZ z) (ints_of T) fun tk s' S' => q.at S' O ⟨tk, ?_⟩
  congr 1
  clear T q
  induction ns with
  | nil => rfl
  | cons n ns ih => rw [List.map_cons, List.sum_cons, List.sum_cons, ih, Int.natCast_add]
theorem Ev.firsts {c : Cb w} {x y : Str} {xp yp tp p0 : Pos} {k : Nat} {iter : PySem.Expr} {scope : Scope} {ps : List (Nat × Nat)} (h : Ev c.g L ob iter (tRow ps) ob) (hz : ps.length ≤ 16000000) (hs : ∀ x, foldedSetIterable iter c.env x = pure x) (hclos : closureFor scope c.env = pure [])
    (hkind : scope.kind = .function) (hnames : ∀ x ∈ scope.names, x.2 = .local → scope.names.lookup x.1 = some .local) (hcell : ∀ y ∈ scope.names, y.2 ≠ .cell) (hx : scope.names.lookup x = some .local) (hy : scope.names.lookup y = some .local) (hxy : x ≠ y) (hd : (x == ("__debug__" : Str)) = false) :
    Ev c.g L ob (.ListComp (.Name x p0) [⟨.Tuple [.Name x xp, .Name y yp] k tp, iter, [], 0⟩] scope pos) (tLs ((ps.map (·.1)).map tN)) ob := by
  intro Z vs mt s Q E p q
  refine V_comp c.act hs hclos hkind hnames hcell (h Z vs mt s _ _ p ?_)
  rintro v Z1 mt1 s1 z1 S1 O1 ⟨a, xs, n, rfl, za, T⟩
  have hl : xs.length = ps.length := by rw [T.length, List.length_map]
  refine iter_list c.act S1 za fun it s2 o ho hf S2 => ?_
  subst ho
  let J : Nat → Zt → List (Option Value) → List (Addr × Obj) → List Value → Prop := fun i Z' vs' mt' ys => vs' = vs ∧ mt' = mt1 ∧ TL Z' (((ps.take i).map (·.1)).map tN) ys
  refine CL.mk it _ xs.length _ _ Z1 _ _ J rfl (by rw [sizeLine_eq]; exact lin2 hz (Nat.le_of_eq hl) (by wtm_at "a")) (steps_list c.act.hnd za hf) ⟨rfl, rfl⟩ S2 ⟨rfl, rfl, .nil⟩ ?_ ?_
  · rintro C acc i v Z5 vs5 mt5 ys k m oC o5 s5 E5 hi hv hz5 ⟨rfl, rfl, hys⟩ hC S5
    obtain ⟨pr, hpr⟩ : ∃ pr, ps[i]? = some pr := ⟨_, List.getElem?_eq_getElem (by exact lin2 (Nat.le_of_eq hl) hi (by wtm_at "a"))⟩
    obtain ⟨v', hv', hr⟩ := T.get (show (ps.map tPair)[i]? = some (tPair pr) by rw [List.getElem?_map, hpr]; rfl)
    rw [show xs[i]? = some v from hv] at hv'
    cases hv'
    obtain ⟨ta, t1, t2, cn, rfl, hta⟩ := tPair_iff.mp hr
    refine C_turn2 c.act S5 (hz5 _ _ hta) hC hkind hx hy hxy fun m' oC' s6 n6 hmx _ S6 => ?_
    refine C_loc S6 .here n6 hkind hx hmx hd (CTurn.mk n6 S6 hz5 ⟨rfl, rfl, ?_⟩)
    rw [List.take_add_one, hpr, Option.toList_some, List.map_append, List.map_append]
    exact hys.append (.cons ⟨t1, rfl⟩ .nil)
  · rintro acc Z5 vs5 mt5 ys k hz5 ⟨rfl, rfl, hys⟩ hacc s' S'
    rw [hl, List.take_length] at hys
    exact q _ _ _ _ (fun _ _ z => .inl (hz5 _ _ (z1 _ _ z))) (S'.freeze hacc) (O1.up fun _ _ z => .inl (hz5 _ _ z)) ⟨acc, _, _, rfl, .inr ⟨rfl, rfl⟩, hys.up fun _ _ z => .inl z⟩
theorem Lc.Ok.nil {nm : List (Option Value) → Str → Option Value} {Z : Zt} {vs : List (Option Value)} : Lc.Ok ⟨[], []⟩ nm Z vs := fun i x t h _ => by simp at h
theorem Lc.Ok.cons {nm : List (Option Value) → Str → Option Value} {Z : Zt} {vs : List (Option Value)} {x : Str} {v : Value} (e : nm vs x = some v) (r : t.r Z v) (h : Lc.Ok ⟨ns, ts⟩ nm Z vs) : Lc.Ok ⟨x :: ns, t :: ts⟩ nm Z vs := fun i y t' h1 h2 => by
  cases i with
  | zero => cases h1; cases h2; exact ⟨v, e, r⟩
  | succ i => exact h i y t' h1 h2
theorem hs_of {T T' : Tb} {name : Str} (k : ∀ Z v, t.r Z v → ∀ kvs, TbK Z T kvs → TbK Z T' (sto kvs name v)) : ∀ Z v kvs, t.r Z v → TbK Z T kvs → TbK Z T' (sto kvs name v) := fun Z v kvs r h => k Z v r kvs h
end
noncomputable def oCell (ca : Addr) (t : Ty) : Ob := ⟨ca, fun Z o => ∃ v, o.data = .cell (some v) ∧ t.r Z v, fun k ⟨v, e, h⟩ => ⟨v, e, t.m k h⟩⟩
noncomputable def oCell0 (ca : Addr) : Ob := ⟨ca, fun _ o => o.data = .cell none, fun _ h => h⟩
theorem Obs.pick {Z : Zt} {ob : List Ob} {mt : List (Addr × Obj)} (h : Obs Z ob mt) : ∀ {i : Nat} {b : Ob}, ob[i]? = some b → ∃ o, b.r Z o ∧ Has b.d o mt ∧ (∀ o', Chg b.d o o' mt (mt.set i (b.d, o'))) ∧ ∀ b' o', b'.d = b.d → b'.r Z o' → Obs Z (ob.set i b') (mt.set i (b.d, o')) := by
  induction h with
  | nil => intro i b e; cases e
  | @cons b0 o0 bs mt r h ih =>
    intro i b e
    cases i with
    | zero => cases e; exact ⟨o0, r, .here, fun _ => .here, fun b' o' hd hr => by rw [← hd]; exact .cons hr h⟩
    | succ i =>
      obtain ⟨o, h1, h2, h3, h4⟩ := ih e
      exact ⟨o, h1, .there h2, fun o' => .there (h3 o'), fun b' o' hd hr => .cons r (h4 b' o' hd hr)⟩
section
variable {w : World} {c : Cx w} {L : Lc} {ob ob1 ob2 ob' : List Ob} {t t' t1 t2 t3 : Ty} {pos p' : Pos} {ns : List Str} {ts : List Ty} {rest : List Stmt}
theorem Ev.cell {c : Cb w} {x : Str} {ca : Addr} {i : Nat} (hk : c.env.kindOf x = some .cell) (hc : c.env.cells.lookup x = some ca) (hb : ob[i]? = some (oCell ca t)) (hd : (x == ("__debug__" : Str)) = false) : Ev c.g L ob (.Name x pos) t ob := fun Z vs mt s Q E p q => by
  obtain ⟨o, ⟨v, e, r⟩, hm, _⟩ := p.o.pick hb
  exact R_cell c.act p.S hk hc hm e hd (q.at p.S p.o r)
theorem Op.tuple {ts : List Ty} : Op c [tTup ts] (fun us => PySem.call (.type "tuple") us) ob (tTup ts) ob := by
  rintro Z vs mt s us Q E S O (_ | ⟨⟨d, xs, n, rfl, z, T⟩, (_ | _)⟩) q
  exact call_tuple_tup ⟨_, S.z _ _ z, rfl, n, rfl⟩ (q.at S O ⟨d, xs, n, rfl, z, T⟩)
theorem Op.list {ts : List Ty} (hz : ts.length ≤ 16000000) : Op c [tLs ts] (fun us => PySem.call (.type "list") us) ob (tLs ts) ob := by
  rintro Z vs mt s us Q E S O (_ | ⟨⟨d, xs, n, rfl, z, T⟩, (_ | _)⟩) q
  refine R_list c.act S (S.z _ _ z) (by rw [sizeLine_eq, T.length]; exact lin1 hz (by wtm_at "a")) fun l n' s' S' f => ?_
  exact q _ _ _ _ (fun _ _ z => .inl z) (S'.freeze f.2) (O.up fun _ _ z => .inl z) ⟨l, _, _, rfl, .inr ⟨rfl, rfl⟩, T.up fun _ _ z => .inl z⟩
theorem Tq.val {e : PySem.Expr} {b : Bool} (he : isTrue e c.env (eval e c.env) = (do let v ← eval e c.env; standAt e.pos; holding [v] (truthy v))) (h : Ev c L ob e (tBool b) ob1) : Tq c L ob e (b = true) ob1 := by
  intro Z vs mt s Q E p q
  refine V_value he (h Z vs mt s _ _ p ?_)
  rintro v Z1 mt1 s1 z1 S1 O1 rfl
  refine wpAny_truthy_bool ?_
  have := q Z1 mt1 s1 z1 S1 O1
  rw [Bool.decide_eq_true] at this
  exact this
theorem Tq.no {e : PySem.Expr} {p : Prop} [Decidable p] (h : Tq c L ob e p ob1) (hp : ¬ p) : Tq c L ob e False ob1 := fun Z vs mt s Q E pr q => h Z vs mt s Q E pr fun Z' mt' s' z S O => (decide_eq_false hp).symm ▸ q Z' mt' s' z S O
theorem Tq.or {x : PySem.Expr} {es : List PySem.Expr} {b : Bool} (h1 : Tq c L ob x False ob1) (h2 : Tq c L ob1 (.BoolOp .Or es pos) False ob2) : Tq c L ob (.BoolOp .Or (x :: es) pos) False ob2 := by
  intro Z vs mt s Q E p q
  refine isTrue_or (h1 Z vs mt s _ _ p fun Z1 mt1 s1 z1 S1 O1 => ?_)
  exact h2 Z1 vs mt1 s1 _ _ ⟨S1, p.l.up z1, O1⟩ fun Z2 mt2 s2 z2 S2 O2 => q Z2 mt2 s2 (fun _ _ k => z2 _ _ (z1 _ _ k)) S2 O2
theorem Tq.or0 : Tq c L ob (.BoolOp .Or [] pos) False ob := fun Z vs mt s Q E p q => isTrue_or_nil (q Z mt s (fun _ _ k => k) p.S p.o)
theorem Tq.neP {l r : PySem.Expr} {a b : Nat × Nat} (hm : behindInMarks .NotEq r = false) (hu : Room c.A 1) (h1 : Ev c L ob l (tPair a) ob1) (h2 : Ev c L ob1 r (tPair b) ob2) : Tq c L ob (.Compare l [.NotEq] [r] pos) (¬ a = b) ob2 := by
  refine Tq.cmp hm h1 h2 ?_
  intro Z vs mt s x y Q E S O hx hy q
  obtain ⟨l1, t1, t2, n1, rfl, z1⟩ := tPair_iff.mp hx
  obtain ⟨l2, t3, t4, n2, rfl, z2⟩ := tPair_iff.mp hy
  refine R_tne2 (S.z _ _ z1) (S.z _ _ z2) hu.un ?_
  rw [show (!decide ((a.1, a.2) = (b.1, b.2))) = decide (¬ a = b) from decide_not.symm]
  exact q
theorem Tq.neBs {l r : PySem.Expr} {ps qs : List (List UInt8)} (hm : behindInMarks .NotEq r = false) (hu : Room c.A 1) (h1 : Ev c L ob l (tBs ps) ob1) (h2 : Ev c L ob1 r (tBs qs) ob2) : Tq c L ob (.Compare l [.NotEq] [r] pos) (¬ ps = qs) ob2 := by
  refine Tq.cmp hm h1 h2 ?_
  intro Z vs mt s x y Q E S O hx hy q
  obtain ⟨l1, xs, n1, rfl, z1, a1⟩ := tBs_iff.mp hx
  obtain ⟨l2, ys, n2, rfl, z2, a2⟩ := tBs_iff.mp hy
  refine R_lne (R := BytesV) (fun v u p q ⟨t1, e1⟩ ⟨t2, e2⟩ => by subst e1 e2; exact eqv_bytes p q t1 t2) (S.isListZ z1) (S.isListZ z2) a1 a2 hu.un ?_
  rw [show (!decide (ps = qs)) = decide (¬ ps = qs) by simp]
  exact q
theorem Tq.neB {l r : PySem.Expr} {p q : List UInt8} (hm : behindInMarks .NotEq r = false) (h1 : Ev c L ob l (tB p) ob1) (h2 : Ev c L ob1 r (tB q) ob2) : Tq c L ob (.Compare l [.NotEq] [r] pos) (¬ p = q) ob2 := by
  refine Tq.cmp hm h1 h2 ?_
  rintro Z vs mt s x y Q E S O ⟨t1, rfl⟩ ⟨t2, rfl⟩ k
  refine R_bne ?_
  rw [show (p != q) = decide (¬ p = q) by by_cases e : p = q <;> simp [e]]
  exact k
end
theorem Obs.app {Z : Zt} {bs : List Ob} {b : Ob} {o : Obj} {mt : List (Addr × Obj)} (h : Obs Z bs mt) (r : b.r Z o) : Obs Z (bs ++ [b]) (mt ++ [(b.d, o)]) := by
  induction h with
  | nil => exact .cons r .nil
  | cons a _ ih => exact .cons a ih
theorem Obs.unapp {Z : Zt} {bs : List Ob} {b : Ob} {mt : List (Addr × Obj)} (h : Obs Z (bs ++ [b]) mt) : ∃ mt' o, mt = mt' ++ [(b.d, o)] ∧ Obs Z bs mt' ∧ b.r Z o := by
  induction bs generalizing mt with
  | nil => cases h with | cons a h => cases h; exact ⟨[], _, rfl, .nil, a⟩
  | cons b0 bs ih =>
    cases h with | cons a h =>
    obtain ⟨mt', o, rfl, h1, h2⟩ := ih h
    exact ⟨_ :: mt', o, rfl, .cons a h1, h2⟩
noncomputable def tEx {ι : Type} (p : ι → Prop) (f : ι → Ty) : Ty := ⟨fun Z v => ∃ i, p i ∧ (f i).r Z v, fun k ⟨i, a, r⟩ => ⟨i, a, Ty.m _ k r⟩⟩
noncomputable def oIs (a : Addr) (o : Obj) : Ob := ⟨a, fun _ x => x = o, fun _ h => h⟩
noncomputable def oLs (l : Addr) (ts : List Ty) : Ob := ⟨l, fun Z o => ∃ xs n, o = Lo xs n ∧ TL Z ts xs, fun k ⟨xs, n, e, h⟩ => ⟨xs, n, e, h.up k⟩⟩
inductive Out
  | nxt (L : Lc) (ob : List Ob)
  | ret (t : Ty) (ob : List Ob)
  | err (word : Str)
  | fam {ι : Type} (p : ι → Prop) (L : ι → Lc) (ob : ι → List Ob)
noncomputable def Out.ex : Out → Bool
  | .nxt _ _ => false
  | .fam _ _ _ => false
  | _ => true
noncomputable def Out.app (b : Ob) : Out → Out
  | .nxt L ob => .nxt L (ob ++ [b])
  | .ret t ob => .ret t (ob ++ [b])
  | .err word => .err word
  | .fam p L ob => .fam p L (fun i => ob i ++ [b])
noncomputable def Out.K {w : World} (c : Cb w) (Z : Zt) (K : Flow → Shared → Prop) (E : Value → Shared → Prop) : Out → Prop
  | .nxt L ob => ∀ Z' vs' mt' s', (∀ a o, Z a o → Z' a o) → Pre c.g L ob Z' vs' mt' s' → K .next s'
  | .ret t ob => ∀ v Z' vs' mt' s', (∀ a o, Z a o → Z' a o) → St c.G Z' vs' mt' s' → Obs Z' ob mt' → t.r Z' v → K (.ret v) s'
  | .err word => ∀ e vs' s', Thr c.G vs' word (FlA c.G.L) e s' → E e s'
  | .fam p L ob => ∀ i, p i → ∀ Z' vs' mt' s', (∀ a o, Z a o → Z' a o) → Pre c.g (L i) (ob i) Z' vs' mt' s' → K .next s'
noncomputable def Bs {w : World} (c : Cb w) (L : Lc) (ob : List Ob) (body : List Stmt) (o : Out) : Prop := ∀ Z vs mt s K E, Pre c.g L ob Z vs mt s → o.K c Z K E → wpAny (model P w) c.A (execs body c.env) K E s
noncomputable def Er {w : World} (c : Cx w) (L : Lc) (ob : List Ob) (e : PySem.Expr) (word : Str) : Prop := ∀ Z vs mt s Q E, Pre c L ob Z vs mt s → (∀ x s', Thr c.G vs word (FlA c.G.L) x s' → E x s') → wpAny (model P w) c.A (eval e c.env) Q E s
noncomputable def OpE {w : World} (c : Cx w) (ts : List Ty) (f : List Value → Sem Value) (ob : List Ob) (word : Str) : Prop := ∀ Z vs mt s us Q E, St c.G Z vs mt s → Obs Z ob mt → TL Z ts us → (∀ x s', Thr c.G vs word (FlA c.G.L) x s' → E x s') → wpAny (model P w) c.A (f us) Q E s
section
variable {w : World} {c : Cb w} {L L' L1 : Lc} {ob ob0 ob1 ob2 ob' : List Ob} {t t' t1 t2 t3 : Ty} {pos p' : Pos} {ns nm gn : List Str} {ts : List Ty} {st : Stmt} {body rest : List Stmt} {o : Out} {e : PySem.Expr} {word : Str} {K : Flow → Shared → Prop} {E : Value → Shared → Prop} {Z Z' : Zt} {Lf : Nat → Lc}
theorem Out.K.up (h : o.K c Z K E) (z : ∀ a o, Z a o → Z' a o) : o.K c Z' K E := by
  cases o with
  | nxt => exact fun Z2 vs mt s k => h Z2 vs mt s fun _ _ q => k _ _ (z _ _ q)
  | ret => exact fun v Z2 vs mt s k => h v Z2 vs mt s fun _ _ q => k _ _ (z _ _ q)
  | err => exact h
  | fam => exact fun i hi Z2 vs mt s k => h i hi Z2 vs mt s fun _ _ q => k _ _ (z _ _ q)
theorem Out.K.nx (he : o.ex = true) (h : o.K c Z K E) : o.K c Z (Nx w c.A c.env rest K E) E := by
  cases o with
  | nxt => cases he
  | fam => cases he
  | ret => exact h
  | err => exact h
theorem Out.K.lp {J K' : Shared → Prop} {it : Addr} {x : Obj} (he : o.ex = true) (h : o.K c Z K E) : (o.app (oIs it x)).K c Z (Lp J K' K) (Elp w c.A c.env E) := by
  cases o with
  | nxt => cases he
  | fam => cases he
  | ret t ob =>
    intro v Z' vs' mt' s' z S O r
    obtain ⟨mt2, o2, rfl, h1, _⟩ := Obs.unapp O
    exact h v Z' vs' mt2 s' z (S.sub (List.sublist_append_left _ _)) h1 r
  | err => exact fun e vs' s' T => thr_loop c.act T fun s2 T' => h e vs' s2 (T'.imp fun o tl f => f.any')
theorem Bs.nil : Bs c L ob [] (.nxt L ob) := fun Z vs mt s K E p q => X_nil (q Z vs mt s (fun _ _ k => k) p)
theorem Bs.fam {ι : Type} {p : ι → Prop} {Lg : ι → Lc} {obg : ι → List Ob} (i : ι) (hi : p i) : Bs c (Lg i) (obg i) [] (.fam p Lg obg) := fun Z vs mt s K E pr q => X_nil (q i hi Z vs mt s (fun _ _ k => k) pr)
theorem Bs.drop (k : Nat) : Bs c ⟨ns, ts⟩ ob [] (.nxt ⟨ns.drop k, ts.drop k⟩ ob) := fun Z vs mt s K E p q => X_nil (q Z vs mt s (fun _ _ k => k) ⟨p.S, fun i x t h1 h2 => p.l (k + i) x t (by rw [← List.getElem?_drop]; exact h1) (by rw [← List.getElem?_drop]; exact h2), p.o⟩)
theorem Bs.ret (h : Ev c.g L ob e t ob') : Bs c L ob (.Return (some e) pos :: rest) (.ret t ob') := fun Z vs mt s K E p q => X_ret (h Z vs mt s _ _ p fun v Z' mt' s' z S O r => q v Z' vs mt' s' z S O r)
theorem Lc.Ok.upd {nm : List Str} {vs : List (Option Value)} {x : Str} {i j : Nat} {v : Value} (h : Lc.Ok ⟨ns, ts⟩ (look nm) Z vs) (nd : nm.Nodup) (hl : vs.length = nm.length) (hj : Ix nm x j) (hi : Ix ns x i) (hn : ns.Nodup) (hv : t.r Z v) :
    Lc.Ok ⟨ns, ts.set i t⟩ (look nm) Z (vs.set j (some v)) := by
  have e := look_set (v := some v) nd hl hj.get
  intro k y t' h1 h2
  rw [← e]
  rw [List.getElem?_set] at h2
  have hx := hi.get
  by_cases q : i = k
  · subst q
    have h1 : ns[i]? = some y := h1
    rw [hx] at h1; cases h1
    split at h2
    · split at h2
      · cases h2; exact ⟨v, if_pos rfl, hv⟩
      · cases h2
    · exact absurd rfl ‹_›
  · rw [if_neg q] at h2
    obtain ⟨u, a, b⟩ := h k y t' h1 h2
    refine ⟨u, ?_, b⟩
    show (if y = x then some v else look nm vs y) = some u
    rw [if_neg]
    · exact a
    · rintro rfl
      exact q ((List.getElem?_inj (List.getElem?_eq_some_iff.mp hx).1 hn).mp (hx.trans h1.symm))
theorem Bs.set {x : Str} {xp : Pos} {j : Nat} (hnm : c.G.nm = nm) (hj : Ix nm x j) (hn : ns.contains x = false) (hs : swapsWith e (some (.Name x xp)) pos.line c.env = pure false)
    (h1 : Ev c.g ⟨ns, ts⟩ ob e t1 ob1) (h2 : Bs c ⟨x :: ns, t1 :: ts⟩ ob1 rest o) : Bs c ⟨ns, ts⟩ ob (.Assign [.Name x xp] e pos :: rest) o := by
  intro Z vs mt s K E p q
  have nd := c.act.nd
  refine X_assign c.act hnm hs (h1 Z vs mt s _ _ p fun v Z1 mt1 s1 z1 S1 O1 r1 => ?_)
  rw [hnm] at nd
  have hl : vs.length = nm.length := hnm ▸ S1.len
  refine KSet.mk S1 (hj.put hl) fun s2 S2 => h2 Z1 _ mt1 s2 K E ⟨S2, ?_, O1⟩ (q.up z1)
  have hL : Lc.Ok ⟨ns, ts⟩ (look c.G.nm) Z1 vs := p.l.up z1
  show Lc.Ok _ (look c.G.nm) _ _
  rw [hnm] at hL ⊢
  exact hL.put nd hl hj hn r1
theorem Bs.upd {x : Str} {xp : Pos} {i j : Nat} (hnm : c.G.nm = nm) (hj : Ix nm x j) (hi : Ix ns x i) (hn : ns.Nodup) (hs : swapsWith e (some (.Name x xp)) pos.line c.env = pure false)
    (h1 : Ev c.g ⟨ns, ts⟩ ob e t1 ob1) (h2 : Bs c ⟨ns, ts.set i t1⟩ ob1 rest o) : Bs c ⟨ns, ts⟩ ob (.Assign [.Name x xp] e pos :: rest) o := by
  intro Z vs mt s K E p q
  have nd := c.act.nd
  refine X_assign c.act hnm hs (h1 Z vs mt s _ _ p fun v Z1 mt1 s1 z1 S1 O1 r1 => ?_)
  rw [hnm] at nd
  have hl : vs.length = nm.length := hnm ▸ S1.len
  refine KSet.mk S1 (hj.put hl) fun s2 S2 => h2 Z1 _ mt1 s2 K E ⟨S2, ?_, O1⟩ (q.up z1)
  have hL : Lc.Ok ⟨ns, ts⟩ (look c.G.nm) Z1 vs := p.l.up z1
  show Lc.Ok _ (look c.G.nm) _ _
  rw [hnm] at hL ⊢
  exact hL.upd nd hl hj hi hn r1
theorem Bs.setE {x : Str} {xp : Pos} (hnm : c.G.nm = nm) (hs : swapsWith e (some (.Name x xp)) pos.line c.env = pure false) (h1 : Er c.g L ob e word) : Bs c L ob (.Assign [.Name x xp] e pos :: rest) (.err word) :=
  fun Z vs mt s K E p q => X_assign c.act hnm hs (h1 Z vs mt s _ _ p fun x s' T => q x vs s' T)
theorem Bs.own {x : Str} {xp lp : Pos} {es : List PySem.Expr} {us : List Ty} {j : Nat} (hnm : c.G.nm = nm) (hj : Ix nm x j) (hn : ns.contains x = false) (hs : swapsWith (.List es lp) (some (.Name x xp)) pos.line c.env = pure false)
    (h1 : EvL c.g ⟨ns, ts⟩ ob es us ob1) (hz : us.length ≤ 16000000) (h2 : ∀ l, l ∉ c.G.ft → Bs c ⟨x :: ns, tRef l :: ts⟩ (oLs l us :: ob1) rest o) : Bs c ⟨ns, ts⟩ ob (.Assign [.Name x xp] (.List es lp) pos :: rest) o := by
  intro Z vs mt s K E p q
  have nd := c.act.nd
  refine X_assign c.act hnm hs (List_ (h1 _ Z vs mt s _ _ p fun vs1 Z1 mt1 s1 z1 S1 O1 r1 => R_newList c.act S1 (by rw [sizeLine_eq, r1.length]; exact lin1 hz (by wtm_at "a")) fun l s2 S2 f => ?_))
  rw [hnm] at nd
  have hl : vs.length = nm.length := hnm ▸ S1.len
  refine KSet.mk S2 (hj.put hl) fun s3 S3 => h2 l f.2 Z1 _ _ s3 K E ⟨S3, ?_, .cons (b := oLs l us) ⟨_, _, rfl, r1⟩ O1⟩ (q.up z1)
  have hL : Lc.Ok ⟨ns, ts⟩ (look c.G.nm) Z1 vs := p.l.up z1
  show Lc.Ok _ (look c.G.nm) _ _
  rw [hnm] at hL ⊢
  exact hL.put nd hl hj hn rfl
theorem Bs.frz {l : Addr} {us : List Ty} {x : Str} {i : Nat} (hf : l ∉ c.G.ft) (hi : Ix ns x i) (hn : ns.Nodup) (ht : ts[i]? = some (tRef l)) (h : Bs c ⟨ns, ts.set i (tLs us)⟩ ob rest o) : Bs c ⟨ns, ts⟩ (oLs l us :: ob) rest o := by
  intro Z vs mt s K E p q
  obtain ⟨S, hL, O⟩ := p
  cases O with | cons hb O =>
  obtain ⟨xs, n, rfl, T⟩ := hb
  refine h _ vs _ s K E ⟨S.freeze hf, ?_, O.up fun _ _ k => .inl k⟩ (q.up fun _ _ k => .inl k)
  intro k y t' h1 h2
  rw [List.getElem?_set] at h2
  by_cases e : i = k
  · subst e
    rw [if_pos rfl] at h2
    split at h2
    · cases h2
      obtain ⟨v, a, r⟩ := hL i y _ h1 ht
      cases r
      exact ⟨_, a, l, xs, n, rfl, .inr ⟨rfl, rfl⟩, T.up fun _ _ k => .inl k⟩
    · cases h2
  · rw [if_neg e] at h2
    obtain ⟨v, a, r⟩ := hL k y t' h1 h2
    exact ⟨v, a, t'.m (fun _ _ k => .inl k) r⟩
theorem Bs.ifn {test : PySem.Expr} {orelse : List Stmt} {p : Prop} [Decidable p] (h1 : Tq c.g L ob test p ob1) (h2 : p → Bs c L ob1 body (.nxt L1 ob2)) (h3 : ¬ p → Bs c L ob1 orelse (.nxt L1 ob2)) (h4 : Bs c L1 ob2 rest o) : Bs c L ob (.If test body orelse pos :: rest) o := by
  intro Z vs mt s K E p' q
  refine X_if (h1 Z vs mt s _ _ p' fun Z1 mt1 s1 z1 S1 O1 => ?_)
  have k : Out.K c Z1 (Nx w c.A c.env rest K E) E (.nxt L1 ob2) := fun Z2 vs2 mt2 s2 z2 p2 => Nx.next (h4 Z2 vs2 mt2 s2 K E p2 ((q.up z1).up z2))
  by_cases hp : p
  · rw [decide_eq_true hp, if_pos rfl]; exact h2 hp Z1 vs mt1 s1 _ _ ⟨S1, p'.l.up z1, O1⟩ k
  · rw [decide_eq_false hp, if_neg Bool.false_ne_true]; exact h3 hp Z1 vs mt1 s1 _ _ ⟨S1, p'.l.up z1, O1⟩ k
theorem Bs.expr (hi : interactive c.env = false) (hs : swapsWith e none pos.line c.env = pure false) (h1 : Ev c.g L ob e tNone ob1) (h2 : Bs c L ob1 rest o) : Bs c L ob (.Expr e pos :: rest) o :=
  fun Z vs mt s K E p q => X_expr c.act hs (h1 Z vs mt s _ _ p fun v Z1 mt1 s1 z1 S1 O1 r1 => ⟨r1, h2 Z1 vs mt1 s1 K E ⟨S1, p.l.up z1, O1⟩ (q.up z1)⟩)
theorem Bs.exprE (hs : swapsWith e none pos.line c.env = pure false) (h1 : Er c.g L ob e word) : Bs c L ob (.Expr e pos :: rest) (.err word) :=
  fun Z vs mt s K E p q => X_expr c.act hs (h1 Z vs mt s _ _ p fun x s' T => q x vs s' T)
noncomputable def Asn {w : World} (c : Cb w) (target : PySem.Expr) (t : Ty) (L L' : Lc) : Prop := ∀ ob Z vs mt s v (Q : Unit → Shared → Prop) E, Pre c.g L ob Z vs mt s → t.r Z v → (∀ vs' s', Pre c.g L' ob Z vs' mt s' → Q () s') → wpAny (model P w) c.A (assign target c.env v) Q E s
theorem Asn.name {x : Str} {xp : Pos} {j : Nat} (hnm : c.G.nm = nm) (hj : Ix nm x j) (hn : ns.contains x = false) : Asn c (.Name x xp) t ⟨ns, ts⟩ ⟨x :: ns, t :: ts⟩ := by
  intro ob Z vs mt s v Q E p r h
  have nd := c.act.nd
  rw [hnm] at nd
  have hl : vs.length = nm.length := hnm ▸ p.S.len
  refine T_name c.act p.S hnm (hj.put hl) fun s1 S1 => h _ _ ⟨S1, ?_, p.o⟩
  have hL : Lc.Ok ⟨ns, ts⟩ (look c.G.nm) Z vs := p.l
  show Lc.Ok _ (look c.G.nm) _ _
  rw [hnm] at hL ⊢
  exact hL.put nd hl hj hn r
theorem Asn.pair {x y : Str} {xp yp tp : Pos} {k i j : Nat} (hnm : c.G.nm = nm) (hi : Ix nm x i) (hj : Ix nm y j) (nx : ns.contains x = false) (ny : (x :: ns).contains y = false) : Asn c (.Tuple [.Name x xp, .Name y yp] k tp) (tTup [t1, t2]) ⟨ns, ts⟩ ⟨y :: x :: ns, t2 :: t1 :: ts⟩ := by
  rintro ob Z vs mt s v Q E p ⟨a, xs, n, rfl, za, T⟩ h
  obtain _ | ⟨r1, _ | ⟨r2, _ | _⟩⟩ := T
  have nd := c.act.nd
  rw [hnm] at nd
  have ln : vs.length = nm.length := hnm ▸ p.S.len
  have ln1 : ∀ v, (vs.set i (some v)).length = nm.length := fun v => by rw [List.length_set, ln]
  refine T_pair c.act p.S hnm (p.S.z _ _ za) (hi.put ln) (hj.put (ln1 _)) fun s1 S1 => h _ _ ⟨S1, ?_, p.o⟩
  have hL : Lc.Ok ⟨ns, ts⟩ (look c.G.nm) Z vs := p.l
  show Lc.Ok _ (look c.G.nm) _ _
  rw [hnm] at hL ⊢
  exact (hL.put nd ln hi nx r1).put nd (ln1 _) hj ny r2
noncomputable def Itr {w : World} (c : Cb w) (L : Lc) (ob : List Ob) (iter : PySem.Expr) (n : Nat) (us : Nat → Ty) (ob' : List Ob) : Prop := ∀ Z vs mt s (Q : Value → Shared → Prop) E, Pre c.g L ob Z vs mt s →
  (∀ it o IA V Z' mt' s', (∀ a o, Z a o → Z' a o) → Steps w c.A c.G Z' it n IA V → IA 0 o → St c.G Z' vs ((it, o) :: mt') s' → Obs Z' ob' mt' → (∀ i v, i < n → V i v → (us i).r Z' v) → Q (.ref it) s') →
  wpAny (model P w) c.A (eval iter c.env) (fun v s1 => wpAny (model P w) c.A (pyIter v) Q E s1) E s
theorem Itr.list {α : Type} {f : α → Ty} {xs : List α} (h : Ev c.g L ob e (tLs (xs.map f)) ob') : Itr c L ob e xs.length (fun i => (xs[i]?).elim tNone f) ob' := by
  intro Z vs mt s Q E p k
  refine h Z vs mt s _ _ p ?_
  rintro v Z1 mt1 s1 z1 S1 O1 ⟨a, ys, n, rfl, za, T⟩
  refine iter_list c.act S1 za fun it s2 o ho hf S2 => ?_
  subst ho
  have hl : ys.length = xs.length := by rw [T.length, List.length_map]
  refine k it _ _ _ Z1 mt1 s2 z1 (hl ▸ steps_list c.act.hnd za hf) ⟨rfl, rfl⟩ S2 O1 fun i v hi hv => ?_
  obtain ⟨x, hx⟩ : ∃ x, xs[i]? = some x := ⟨_, List.getElem?_eq_getElem hi⟩
  obtain ⟨v', hv', hr⟩ := T.get (show (xs.map f)[i]? = some (f x) by rw [List.getElem?_map, hx]; rfl)
  rw [show ys[i]? = some v from hv] at hv'
  cases hv'
  show ((xs[i]?).elim tNone f).r Z1 v
  rw [hx]; exact hr
theorem Itr.bytes {b : List UInt8} (h : Ev c.g L ob e (tB b) ob') : Itr c L ob e b.length (fun i => tN (b.getD i 0).toNat) ob' := by
  intro Z vs mt s Q E p k
  refine h Z vs mt s _ _ p ?_
  rintro v Z1 mt1 s1 z1 S1 O1 ⟨tk, rfl⟩
  refine iter_bytes c.act S1 fun it s2 o ho hf S2 => ?_
  subst ho
  refine k it _ _ _ Z1 mt1 s2 z1 (steps_bytes (b := b.toArray) c.act.hnd hf) ⟨rfl, rfl⟩ S2 O1 ?_
  rintro i v hi ⟨x, u, hx, rfl⟩
  rw [List.getElem?_toArray] at hx
  show (tN (b.getD i 0).toNat).r Z1 _
  rw [List.getD_eq_getElem?_getD, hx]
  exact ⟨u, rfl⟩
theorem Itr.range {xp : Pos} {n : Nat} (hgn : c.G.gn = gn) (hc : gn.contains "range" = true) (he : starEach [e] c.env = (false, eval e c.env) :: starEach [] c.env) (h : Ev c.g L ob e (tN n) ob') (hz : n ≤ 2 ^ 40) : Itr c L ob (.Call (.Name "range" xp) [e] [] p') n (fun i => tN i) ob' := by
  intro Z vs mt s Q E p k
  refine X_Name (R_blt (v := .type "range") c.act p.S hgn hc (by wtm_at "kis") (by boot_by_name) (by decide) (V_ctype he rfl (EvL.cons he h .nil p' Z vs mt s _ _ p ?_)))
  rintro us Z1 mt1 s1 z1 S1 O1 (_ | ⟨⟨tk, rfl⟩, (_ | _)⟩)
  refine R_range1 c.act S1 fun r t5 t6 s5 S5 => ?_
  refine iter_range c.act S5 (.head _) (by decide) (by decide) (by omega) (by omega) fun it s6 oi hoi hf S6 => ?_
  have hnn : ((n : Int) - 0).toNat = n := by omega
  refine k it oi _ _ Z1 mt1 s6 z1 (steps_range (x := 0) (n := n) c.act.hnd hf) (by rw [hoi, hnn]) (S6.sub (.cons_cons _ (.cons _ (.refl _)))) O1 ?_
  rintro i v hi ⟨tv, rfl⟩
  exact ⟨tv, by rw [Int.zero_add]⟩
theorem Itr.range2 {xp : Pos} {e2 : PySem.Expr} {m n : Nat} (hgn : c.G.gn = gn) (hc : gn.contains "range" = true) (he : starEach [e, e2] c.env = (false, eval e c.env) :: starEach [e2] c.env) (he2 : starEach [e2] c.env = (false, eval e2 c.env) :: starEach [] c.env) (h : Ev c.g L ob e (tN m) ob1) (h2 : Ev c.g L ob1 e2 (tN n) ob') (hm : m ≤ 2 ^ 40) (hz : n ≤ 2 ^ 40) : Itr c L ob (.Call (.Name "range" xp) [e, e2] [] p') (n - m) (fun i => tN (m + i)) ob' := by
  intro Z vs mt s Q E p k
  refine X_Name (R_blt (v := .type "range") c.act p.S hgn hc (by wtm_at "kis") (by boot_by_name) (by decide) (V_ctype he (by rw [he2]; rfl) (EvL.cons he h (.cons he2 h2 .nil) p' Z vs mt s _ _ p ?_)))
  rintro us Z1 mt1 s1 z1 S1 O1 (_ | ⟨⟨tk, rfl⟩, (_ | ⟨⟨tk2, rfl⟩, (_ | _)⟩)⟩)
  refine R_range2 c.act S1 fun r t6 s5 S5 => ?_
  refine iter_range c.act S5 (.head _) (by omega) (by omega) (by omega) (by omega) fun it s6 oi hoi hf S6 => ?_
  have hnn : ((n : Int) - m).toNat = n - m := by omega
  refine k it oi _ _ Z1 mt1 s6 z1 (steps_range (x := (m : Int)) (n := n - m) c.act.hnd hf) (by rw [hoi, hnn]) (S6.sub (.cons_cons _ (.cons _ (.refl _)))) O1 ?_
  rintro i v hi ⟨tv, rfl⟩
  exact ⟨tv, by rw [Int.natCast_add]⟩
theorem Bs.for_ {σ : Type} {I : Nat → σ → Prop} {Ls : Nat → σ → Lc} {obs : Nat → σ → List Ob} {target iter : PySem.Expr} {n : Nat} {us : Nat → Ty} {x0 : σ} (hs : ∀ x, foldedSetIterable iter c.env x = pure x) (h1 : Itr c (Ls 0 x0) ob iter n us (obs 0 x0)) (h0 : I 0 x0)
    (turn : ∀ i x it ot, i < n → I i x → ∃ L1, Asn c target (us i) (Ls i x) L1 ∧ ((∃ y, I (i + 1) y ∧ Bs c L1 (obs i x ++ [oIs it ot]) body (.nxt (Ls (i + 1) y) (obs (i + 1) y ++ [oIs it ot]))) ∨ (o.ex = true ∧ Bs c L1 (obs i x ++ [oIs it ot]) body (o.app (oIs it ot)))))
    (after : ∀ x, I n x → Bs c (Ls n x) (obs n x) rest o) : Bs c (Ls 0 x0) ob (.For target iter body [] pos :: rest) o := by
  intro Z vs mt s K E p q
  refine X_for c.act hs (h1 Z vs mt s _ _ p fun it ot IA V Z1 mt1 s1 z1 st hI S1 O1 hV => ?_)
  let J : Nat → Zt → List (Option Value) → List (Addr × Obj) → Prop := fun i Z' vs' mt' => ∃ x, I i x ∧ Lc.Ok (Ls i x) c.g.lk Z' vs' ∧ Obs Z' (obs i x) mt'
  refine Loop.mk it ot n IA V Z1 vs mt1 J rfl st hI S1 ⟨x0, h0, p.l.up z1, O1⟩ ?_ ?_
  · rintro i v Z5 vs5 mt5 o5 s5 hi hv hz5 ⟨x, hx, hL5, hO5⟩ S5
    obtain ⟨L1, ha, hb⟩ := turn i x it o5 hi hx
    refine ha (obs i x ++ [oIs it o5]) Z5 vs5 (mt5 ++ [(it, o5)]) s5 v _ _ ⟨S5.perm (List.perm_append_singleton _ _), hL5, hO5.app (b := oIs it o5) rfl⟩ ((us i).m hz5 (hV i v hi hv)) fun vs6 s6 p6 => ?_
    rcases hb with ⟨y, hy, hb⟩ | ⟨he, hb⟩
    · refine hb Z5 vs6 _ s6 _ _ p6 fun Z9 vs9 mt9 s9 z9 p9 => ?_
      obtain ⟨mt', o', rfl, h1, h2⟩ := p9.o.unapp
      cases h2
      exact Turn.mk (p9.S.perm (List.perm_append_singleton _ _).symm) (fun _ _ k => z9 _ _ (hz5 _ _ k)) ⟨y, hy, p9.l, h1⟩
    · exact hb Z5 vs6 _ s6 _ _ p6 (((q.up z1).up hz5).lp he)
  · rintro Z5 vs5 mt5 s5 hz5 ⟨x, hx, hL5, hO5⟩ S5
    exact after x hx Z5 vs5 mt5 s5 K E ⟨S5, hL5, hO5⟩ ((q.up z1).up hz5)
theorem Bs.forL {σ : Type} {I : Nat → σ → Prop} {obs : Nat → σ → List Ob} {target iter : PySem.Expr} {n : Nat} {us : Nat → Ty} (x0 : σ) (hs : ∀ x, foldedSetIterable iter c.env x = pure x) (h1 : Itr c L ob iter n us (obs 0 x0)) (h0 : I 0 x0) (ha : ∀ i, Asn c target (us i) L (Lf i))
    (turn : ∀ i x it ot, i < n → I i x → ((∃ y, I (i + 1) y ∧ Bs c (Lf i) (obs i x ++ [oIs it ot]) body (.nxt L (obs (i + 1) y ++ [oIs it ot]))) ∨ (o.ex = true ∧ Bs c (Lf i) (obs i x ++ [oIs it ot]) body (o.app (oIs it ot)))))
    (after : ∀ x, I n x → Bs c L (obs n x) rest o) : Bs c L ob (.For target iter body [] pos :: rest) o :=
  Bs.for_ (Ls := fun _ _ => L) (obs := obs) (I := I) (x0 := x0) hs h1 h0 (fun i x it ot hi hx => ⟨_, ha i, turn i x it ot hi hx⟩) after
end
inductive TF (Z : Zt) : List (Str × Ty) → List (Str × Value) → Prop
  | nil : TF Z [] []
  | cons {x : Str} {t : Ty} {v : Value} {fs : List (Str × Ty)} {kvs : List (Str × Value)} : t.r Z v → TF Z fs kvs → TF Z ((x, t) :: fs) ((x, v) :: kvs)
theorem TF.up {Z Z' : Zt} {fs : List (Str × Ty)} {kvs : List (Str × Value)} (k : ∀ a o, Z a o → Z' a o) (h : TF Z fs kvs) : TF Z' fs kvs := by
  induction h with
  | nil => exact .nil
  | cons a _ ih => exact .cons (Ty.m _ k a) ih
theorem TF.length {Z : Zt} {fs : List (Str × Ty)} {kvs : List (Str × Value)} (h : TF Z fs kvs) : kvs.length = fs.length := by
  induction h with
  | nil => rfl
  | cons _ _ ih => rw [List.length_cons, List.length_cons, ih]
inductive Fl : List (Str × Ty) → Str → Ty → Prop
  | here {x : Str} {t : Ty} {fs : List (Str × Ty)} : Fl ((x, t) :: fs) x t
  | there {x y : Str} {t u : Ty} {fs : List (Str × Ty)} : (y == x) = false → Fl fs x t → Fl ((y, u) :: fs) x t
inductive Fs : List (Str × Ty) → Str → Ty → List (Str × Ty) → Prop
  | nil {x : Str} {t : Ty} : Fs [] x t [(x, t)]
  | here {x : Str} {t u : Ty} {fs : List (Str × Ty)} : Fs ((x, u) :: fs) x t ((x, t) :: fs)
  | there {x y : Str} {t u : Ty} {fs fs' : List (Str × Ty)} : (y == x) = false → Fs fs x t fs' → Fs ((y, u) :: fs) x t ((y, u) :: fs')
theorem Fl.get {Z : Zt} {fs : List (Str × Ty)} {x : Str} {t : Ty} (f : Fl fs x t) : ∀ {kvs : List (Str × Value)}, TF Z fs kvs → ∃ v, lk kvs x = some v ∧ t.r Z v := by
  induction f with
  | here => rintro kvs (_ | ⟨r, h⟩); exact ⟨_, if_pos rfl, r⟩
  | there hn _ ih =>
    rintro kvs (_ | ⟨r, h⟩)
    obtain ⟨v, e, r⟩ := ih h
    exact ⟨v, (if_neg (by simpa using hn)).trans e, r⟩
theorem Fs.put {Z : Zt} {fs fs' : List (Str × Ty)} {x : Str} {t : Ty} {v : Value} (f : Fs fs x t fs') (r : t.r Z v) : ∀ {kvs : List (Str × Value)}, TF Z fs kvs → TF Z fs' (sto kvs x v) := by
  induction f with
  | nil => rintro kvs (_ | _); exact .cons r .nil
  | here => rintro kvs (_ | ⟨_, h⟩); unfold sto; rw [if_pos rfl]; exact .cons r h
  | there hn _ ih =>
    rintro kvs (_ | ⟨r', h⟩)
    unfold sto
    rw [if_neg (by simpa using hn)]
    exact .cons r' (ih r h)
noncomputable def oD (dx : Addr) (fs : List (Str × Ty)) : Ob := ⟨dx, fun Z o => ∃ kvs, DO kvs o ∧ TF Z fs kvs, fun k ⟨kvs, h, h'⟩ => ⟨kvs, h, h'.up k⟩⟩
noncomputable def tOwn (C dx : Addr) : Ty := ⟨fun Z v => ∃ x, v = .ref x ∧ Z x (instObj C dx), fun k ⟨x, e, z⟩ => ⟨x, e, k _ _ z⟩⟩
noncomputable def tIn (C : Addr) (fs : List (Str × Ty)) : Ty := ⟨fun Z v => ∃ x dx od kvs, v = .ref x ∧ Z x (instObj C dx) ∧ Z dx od ∧ DO kvs od ∧ TF Z fs kvs, fun k ⟨x, dx, od, kvs, e, z, z', h, h'⟩ => ⟨x, dx, od, kvs, e, k _ _ z, k _ _ z', h, h'.up k⟩⟩
noncomputable def Hd (t : Ty) : Prop := ∀ Z v, t.r Z v → handedIn v = true
theorem Hd.n {n : Nat} : Hd (tN n) := fun Z v ⟨_, e⟩ => e ▸ rfl
theorem Hd.b {b : List UInt8} : Hd (tB b) := fun Z v ⟨_, e⟩ => e ▸ rfl
theorem Hd.ls {ts : List Ty} : Hd (tLs ts) := fun Z v ⟨_, _, _, e, _⟩ => e ▸ rfl
theorem Hd.ref {a : Addr} : Hd (tRef a) := fun Z v e => by cases (show v = .ref a from e); rfl
theorem Hd.inn {C : Addr} {fs : List (Str × Ty)} : Hd (tIn C fs) := fun Z v ⟨_, _, _, _, e, _⟩ => e ▸ rfl
theorem TF.none {Z : Zt} {fs : List (Str × Ty)} {name : Str} (hn : fs.all (fun f => f.1 != name) = true) : ∀ {kvs : List (Str × Value)}, TF Z fs kvs → lk kvs name = none := by
  induction fs with
  | nil => rintro kvs (_ | _); rfl
  | cons f fs ih =>
    rintro kvs (_ | ⟨r, h⟩)
    rw [List.all_cons, Bool.and_eq_true] at hn
    exact (if_neg (by simpa using hn.1)).trans (ih hn.2 h)
section
variable {w : World} {c : Cx w} {L L' L1 : Lc} {ob ob0 ob1 ob2 ob' : List Ob} {t t' t0 t1 t2 t3 : Ty} {pos p' apos : Pos} {ns nm gn : List Str} {ts us : List Ty} {e a1 : PySem.Expr} {es : List PySem.Expr} {word name : Str} {C f dx : Addr} {fs fs' : List (Str × Ty)} {i : Nat} {pl : Sem Bool}
noncomputable def Ins {w : World} (c : Cx w) (ob : List Ob) (t : Ty) (C : Addr) (fs : List (Str × Ty)) : Prop := ∀ Z vs mt s v, St c.G Z vs mt s → Obs Z ob mt → t.r Z v → ∃ x dx od kvs, v = .ref x ∧ Z x (instObj C dx) ∧ s.heap.get? dx = some od ∧ DO kvs od ∧ TF Z fs kvs
theorem Ins.own (hi : ob[i]? = some (oD dx fs)) : Ins c ob (tOwn C dx) C fs := by
  rintro Z vs mt s v S O ⟨x, rfl, hx⟩
  obtain ⟨od, ⟨kvs, hD, hF⟩, hm, _⟩ := O.pick hi
  exact ⟨x, dx, od, kvs, rfl, hx, S.has hm, hD, hF⟩
theorem Ins.inn : Ins c ob (tIn C fs) C fs := by
  rintro Z vs mt s v S O ⟨x, dx, od, kvs, rfl, hx, hd, hD, hF⟩
  exact ⟨x, dx, od, kvs, rfl, hx, S.z _ _ hd, hD, hF⟩
theorem Ev.att (he : eval (.Attribute e name pos) c.env = (do let o ← eval e c.env; standAt pos.atName; let r ← holding [o] (getAttr o name true); letTemporaryGo e o r; pure r)) (ok : AttrOk w C name) (h : Ev c L ob e t0 ob1) (hI : Ins c ob1 t0 C fs) (f : Fl fs name t) (hh : Hd t) : Ev c L ob (.Attribute e name pos) t ob1 := by
  intro Z vs mt s Q E p q
  refine V_attr he (h Z vs mt s _ _ p fun v Z1 mt1 s1 z1 S1 O1 r1 => ?_)
  obtain ⟨x, dx, od, kvs, rfl, hx, hd, hD, hF⟩ := hI _ _ _ _ _ S1 O1 r1
  obtain ⟨u, e, r⟩ := f.get hF
  exact A_get ok c.act S1 hx hd hD e (hh _ _ r) fun s2 S2 => (q.up z1).at S2 O1 r
theorem Ev.meth (he : eval (.Call (.Attribute e name apos) (a1 :: es) [] pos) c.env = (do let ov ← eval e c.env; standAt apos.atName; let (f, first) ← holding [ov] (getMethod ov name pl); callWith pos f first (backTo pos (starEach (a1 :: es) c.env)) (backToKw pos (keywordEach [] c.env))))
    (hx : starEach (a1 :: es) c.env = (false, eval a1 c.env) :: starEach es c.env) (hp : (backTo pos (starEach es c.env)).any (·.1) = false) (ok : MethOk w C name f) (hk : keepIn (KK w) (.ref f) = true) (h : Ev c L ob e t0 ob1) (hI : Ins c ob1 t0 C fs) (hn : fs.all (fun f => f.1 != name) = true) (h2 : EvL c L ob1 (a1 :: es) us ob2)
    (ho : Op c (t0 :: us) (fun us => PySem.call (.ref f) us) ob2 t ob') : Ev c L ob (.Call (.Attribute e name apos) (a1 :: es) [] pos) t ob' := by
  intro Z vs mt s Q E p q
  refine V_mcall he (h Z vs mt s _ _ p fun v Z1 mt1 s1 z1 S1 O1 r1 => ?_)
  obtain ⟨x, dx, od, kvs, rfl, hx1, hd, hD, hF⟩ := hI _ _ _ _ _ S1 O1 r1
  refine A_meth ok c.act S1 hx1 hd hD (hF.none hn) ?_
  refine V_cdef c.act S1 hk hx hp (h2 pos Z1 vs mt1 s1 _ _ ⟨S1, p.l.up z1, O1⟩ fun us Z2 mt2 s2 z2 S2 O2 T2 => ?_)
  exact KDef.mk S2 (ho Z2 vs mt2 s2 _ Q E S2 O2 (.cons (t0.m z2 r1) T2) ((q.up z1).up z2))
theorem Ev.meth0 (he : eval (.Call (.Attribute e name apos) [] [] pos) c.env = (do let ov ← eval e c.env; standAt apos.atName; let (f, first) ← holding [ov] (getMethod ov name pl); callWith pos f first (backTo pos (starEach [] c.env)) (backToKw pos (keywordEach [] c.env))))
    (ok : MethOk w C name f) (hk : keepIn (KK w) (.ref f) = true) (h : Ev c L ob e t0 ob1) (hI : Ins c ob1 t0 C fs) (hn : fs.all (fun f => f.1 != name) = true) (ho : Op c [t0] (fun us => PySem.call (.ref f) us) ob1 t ob') : Ev c L ob (.Call (.Attribute e name apos) [] [] pos) t ob' := by
  intro Z vs mt s Q E p q
  refine V_mcall he (h Z vs mt s _ _ p fun v Z1 mt1 s1 z1 S1 O1 r1 => ?_)
  obtain ⟨x, dx, od, kvs, rfl, hx1, hd, hD, hF⟩ := hI _ _ _ _ _ S1 O1 r1
  refine A_meth ok c.act S1 hx1 hd hD (hF.none hn) (V_cdef0 c.act S1 hk ?_)
  exact ho Z1 vs mt1 s1 _ Q E S1 O1 (.cons r1 .nil) (q.up z1)
theorem Er.meth (he : eval (.Call (.Attribute e name apos) (a1 :: es) [] pos) c.env = (do let ov ← eval e c.env; standAt apos.atName; let (f, first) ← holding [ov] (getMethod ov name pl); callWith pos f first (backTo pos (starEach (a1 :: es) c.env)) (backToKw pos (keywordEach [] c.env))))
    (hx : starEach (a1 :: es) c.env = (false, eval a1 c.env) :: starEach es c.env) (hp : (backTo pos (starEach es c.env)).any (·.1) = false) (ok : MethOk w C name f) (hk : keepIn (KK w) (.ref f) = true) (h : Ev c L ob e t0 ob1) (hI : Ins c ob1 t0 C fs) (hn : fs.all (fun f => f.1 != name) = true) (h2 : EvL c L ob1 (a1 :: es) us ob2)
    (ho : OpE c (t0 :: us) (fun us => PySem.call (.ref f) us) ob2 word) : Er c L ob (.Call (.Attribute e name apos) (a1 :: es) [] pos) word := by
  intro Z vs mt s Q E p q
  refine V_mcall he (h Z vs mt s _ _ p fun v Z1 mt1 s1 z1 S1 O1 r1 => ?_)
  obtain ⟨x, dx, od, kvs, rfl, hx1, hd, hD, hF⟩ := hI _ _ _ _ _ S1 O1 r1
  refine A_meth ok c.act S1 hx1 hd hD (hF.none hn) ?_
  refine V_cdef c.act S1 hk hx hp (h2 pos Z1 vs mt1 s1 _ _ ⟨S1, p.l.up z1, O1⟩ fun us Z2 mt2 s2 z2 S2 O2 T2 => ?_)
  exact KDef.mk S2 (ho Z2 vs mt2 s2 _ Q E S2 O2 (.cons (t0.m z2 r1) T2) q)
theorem Er.meth0 (he : eval (.Call (.Attribute e name apos) [] [] pos) c.env = (do let ov ← eval e c.env; standAt apos.atName; let (f, first) ← holding [ov] (getMethod ov name pl); callWith pos f first (backTo pos (starEach [] c.env)) (backToKw pos (keywordEach [] c.env))))
    (ok : MethOk w C name f) (hk : keepIn (KK w) (.ref f) = true) (h : Ev c L ob e t0 ob1) (hI : Ins c ob1 t0 C fs) (hn : fs.all (fun f => f.1 != name) = true) (ho : OpE c [t0] (fun us => PySem.call (.ref f) us) ob1 word) : Er c L ob (.Call (.Attribute e name apos) [] [] pos) word := by
  intro Z vs mt s Q E p q
  refine V_mcall he (h Z vs mt s _ _ p fun v Z1 mt1 s1 z1 S1 O1 r1 => ?_)
  obtain ⟨x, dx, od, kvs, rfl, hx1, hd, hD, hF⟩ := hI _ _ _ _ _ S1 O1 r1
  refine A_meth ok c.act S1 hx1 hd hD (hF.none hn) (V_cdef0 c.act S1 hk ?_)
  exact ho Z1 vs mt1 s1 _ Q E S1 O1 (.cons r1 .nil) q
theorem Er.methA (he : eval (.Call (.Attribute e name apos) [a1] [] pos) c.env = (do let ov ← eval e c.env; standAt apos.atName; let (f, first) ← holding [ov] (getMethod ov name pl); callWith pos f first (backTo pos (starEach [a1] c.env)) (backToKw pos (keywordEach [] c.env))))
    (hx : starEach [a1] c.env = (false, eval a1 c.env) :: starEach [] c.env) (hp : (backTo pos (starEach [] c.env)).any (·.1) = false) (ok : MethOk w C name f) (hk : keepIn (KK w) (.ref f) = true) (h : Ev c L ob e t0 ob1) (hI : Ins c ob1 t0 C fs) (hn : fs.all (fun f => f.1 != name) = true) (h2 : Er c L ob1 a1 word) : Er c L ob (.Call (.Attribute e name apos) [a1] [] pos) word := by
  intro Z vs mt s Q E p q
  refine V_mcall he (h Z vs mt s _ _ p fun v Z1 mt1 s1 z1 S1 O1 r1 => ?_)
  obtain ⟨x, dx, od, kvs, rfl, hx1, hd, hD, hF⟩ := hI _ _ _ _ _ S1 O1 r1
  refine A_meth ok c.act S1 hx1 hd hD (hF.none hn) ?_
  exact V_cdef c.act S1 hk hx hp (V_items hx (h2 Z1 vs mt1 s1 _ _ ⟨S1, p.l.up z1, O1⟩ q))
end
section
variable {w : World} {c : Cb w} {L L' L1 : Lc} {ob ob0 ob1 ob2 ob' : List Ob} {t t' t0 t1 t2 t3 : Ty} {pos p' apos : Pos} {ns nm gn : List Str} {ts us : List Ty} {e v : PySem.Expr} {rest : List Stmt} {o : Out} {word name : Str} {C f dx : Addr} {fs fs' : List (Str × Ty)} {i : Nat}
theorem Bs.att (hs : swapsWith v (some (.Attribute e name p')) pos.line c.env = pure false) (ok : AttrOk w C name) (h1 : Ev c.g L ob v t ob1) (h2 : Ev c.g L ob1 e (tOwn C dx) ob2) (hi : ob2[i]? = some (oD dx fs)) (f : Fs fs name t fs') (hz : fs.length ≤ 1000) (h3 : Bs c L (ob2.set i (oD dx fs')) rest o) : Bs c L ob (.Assign [.Attribute e name p'] v pos :: rest) o := by
  intro Z vs mt s K E p q
  refine X_aattr hs (h1 Z vs mt s _ _ p fun u Z1 mt1 s1 z1 S1 O1 r1 => h2 Z1 vs mt1 s1 _ _ ⟨S1, p.l.up z1, O1⟩ ?_)
  rintro ov Z2 mt2 s2 z2 S2 O2 ⟨x, rfl, hx⟩
  obtain ⟨od, ⟨kvs, hD, hF⟩, hm, hg, hO⟩ := O2.pick hi
  refine A_set ok c.act S2 hx hg hD (by rw [hF.length]; exact hz) rfl fun o' s3 hD3 S3 => h3 Z2 vs _ s3 K E ⟨S3, (p.l.up z1).up z2, ?_⟩ ((q.up z1).up z2)
  exact hO (oD dx fs') o' rfl ⟨_, hD3, f.put (t.m z2 r1) hF⟩
end
section
variable {w : World} {c : Cb w} {L L' L1 : Lc} {ob ob0 ob1 ob2 ob' : List Ob} {t t' t0 t1 t2 t3 : Ty} {pos p' apos xp : Pos} {ns nm gn : List Str} {ts us : List Ty} {e e2 : PySem.Expr} {es : List PySem.Expr} {body rest : List Stmt} {o : Out} {word name x : Str} {i : Nat}
variable {scope : Scope} {cl : List (Str × Addr)} {C : Addr} {m : Str → Option Value} {oC : Obj}
theorem Ev.cloc (hC : NsO m oC) (hkind : scope.kind = .function) (hx : scope.names.lookup x = some .local) (hd : (x == ("__debug__" : Str)) = false) (i : Nat) (hi : Ix ns x i) (ht : ts[i]? = some t) : Ev (c.cp scope cl C m) ⟨ns, ts⟩ (oIs C oC :: ob) (.Name x pos) t (oIs C oC :: ob) := by
  intro Z vs mt s Q E p q
  obtain ⟨v, hv, hr⟩ := p.l i x t hi.get ht
  have O := p.o
  have S := p.S
  obtain ⟨o, rfl, hm, _⟩ := O.pick (i := 0) rfl
  exact C_loc S hm hC hkind hx hv hd (q.at S O hr)
theorem Ev.free {ca : Addr} (hkind : scope.kind = .function) (hx : scope.names.lookup x = some .free) (hk : c.env.kindOf x = some .cell) (hc : cl.lookup x = some ca) (hd : (x == ("__debug__" : Str)) = false) (hb : ob[i]? = some (oCell ca t)) : Ev (c.cp scope cl C m) L ob (.Name x pos) t ob := fun Z vs mt s Q E p q => by
  obtain ⟨o, ⟨v, e, r⟩, hm, _⟩ := p.o.pick hb
  exact C_free c.act p.S hkind hx hk hc hm e hd (q.at p.S p.o r)
theorem Ev.cdefC {es : List PySem.Expr} {f : Addr} (hkind : scope.kind = .function) (hx : (relabel scope c.env).names.lookup x = some .globalImplicit) (hd : (x == ("__debug__" : Str)) = false) (hg : nsIn (KK w) mainGlobals x = some (some (.ref f))) (hk : keepIn (KK w) (.ref f) = true)
    (he : starEach (e :: es) (c.cp scope cl C m).env = (false, eval e (c.cp scope cl C m).env) :: starEach es (c.cp scope cl C m).env) (hp : (backTo pos (starEach es (c.cp scope cl C m).env)).any (·.1) = false)
    (h : EvL (c.cp scope cl C m) L ob (e :: es) ts ob1) (ho : Op (c.cp scope cl C m) ts (fun us => PySem.call (.ref f) us) ob1 t ob') : Ev (c.cp scope cl C m) L ob (.Call (.Name x xp) (e :: es) [] pos) t ob' :=
  Ev.cal (f := x) (fun Z vs mt s Q E S q => C_glob c.act S hkind hx hg hd q) (fun Z vs mt s Q E S k => V_cdef (first := []) c.act S hk he hp k) h ho
noncomputable def AsnC {w : World} (c : Cb w) (scope : Scope) (target : PySem.Expr) (t : Ty) (L' : Lc) : Prop := ∀ (cl : List (Str × Addr)) C oC m Z vs mt s v elt (K : Value → Shared → Prop) (K2 : Shared → Prop) E, St c.G Z vs ((C, oC) :: mt) s → NsO m oC → t.r Z v →
  (∀ m' oC' s', NsO m' oC' → L'.Ok (fun _ => m') Z vs → St c.G Z vs ((C, oC') :: mt) s' → wpAny (model P w) c.A (eval elt (compEnvC scope cl C c.env)) K E s') →
  wpAny (model P w) c.A (assign target (compEnvC scope cl C c.env) v) (fun _ s1 => wpAny (model P w) c.A (testsOf [] (compEnvC scope cl C c.env)) (fun ok s2 => if ok = true then wpAny (model P w) c.A (eval elt (compEnvC scope cl C c.env)) K E s2 else K2 s2) E s1) E s
theorem AsnC.one (hkind : scope.kind = .function) (hx : scope.names.lookup x = some .local) : AsnC c scope (.Name x xp) t ⟨[x], [t]⟩ := fun cl C oC m Z vs mt s v elt K K2 E S hC r h =>
  C_turn1 S hC hkind hx fun m' oC' s' hC' hm' S' => h m' oC' s' hC' (.cons hm' r .nil) S'
theorem CL.typed {target iter elt : PySem.Expr} {n : Nat} {us r : Nat → Ty} {I : Nat → List Ob} {Lf : Nat → Lc} {Fin : Addr → Zt → List (Option Value) → List (Addr × Obj) → List Value → Nat → Prop} {Z : Zt} {vs : List (Option Value)} {mt : List (Addr × Obj)} {s : Shared} {E : Value → Shared → Prop}
    (p : Pre c.g L ob Z vs mt s) (h1 : Itr c L ob iter n us (I 0)) (hz : n ≤ 16000000) (ha : ∀ i, i < n → AsnC c scope target (us i) (Lf i))
    (turn : ∀ i C oC m it o2 acc o3, i < n → NsO m oC → Ev (c.cp scope cl C m) (Lf i) (oIs C oC :: oIs it o2 :: oIs acc o3 :: I i) elt (r i) (oIs C oC :: oIs it o2 :: oIs acc o3 :: I (i + 1)))
    (after : ∀ acc Z' mt' ys k, (∀ a o, Z a o → Z' a o) → acc ∉ c.G.ft → TL Z' ((List.range n).map r) ys → Obs Z' (I n) mt' → Fin acc Z' vs mt' ys k) :
    wpAny (model P w) c.A (eval iter c.env) (fun v s1 => wpAny (model P w) c.A (pyIter v) (CL w c.A c.env c.G scope cl target [] elt Fin) E s1) E s := by
  refine h1 Z vs mt s _ E p fun it o IA V Z1 mt1 s1 z1 st hI S1 O1 hV => ?_
  refine CL.mk it o n IA V Z1 vs mt1 (fun i Z' vs' mt' ys => vs' = vs ∧ Obs Z' (I i) mt' ∧ TL Z' ((List.range i).map r) ys) rfl (by rw [sizeLine_eq]; exact lin1 hz (by wtm_at "a")) st hI S1 ⟨rfl, O1, .nil⟩ ?_ ?_
  · rintro C acc i v Z2 vs2 mt2 ys k m oC o2 s2 E2 hi hv hz2 ⟨rfl, O2, T2⟩ hC S2
    refine ha i hi cl C oC m Z2 _ _ s2 v elt _ _ E2 S2 hC ((us i).m hz2 (hV i v hi hv)) fun m' oC' s3 hC' hL S3 => ?_
    refine turn i C oC' m' it o2 acc (Lo ys k) hi hC' Z2 _ _ s3 _ _ ⟨S3, hL, .cons (b := oIs C oC') rfl (.cons (b := oIs it o2) rfl (.cons (b := oIs acc (Lo ys k)) rfl O2))⟩ fun y Z4 mt4 s4 z4 S4 O4 r4 => ?_
    cases O4 with | cons h1 O4 => cases O4 with | cons h2 O4 => cases O4 with | cons h3 O4 =>
    cases h1; cases h2; cases h3
    refine CTurn.mk hC' S4 (fun _ _ q => z4 _ _ (hz2 _ _ q)) ⟨rfl, O4, ?_⟩
    rw [List.range_succ, List.map_append]
    exact (T2.up z4).append (.cons r4 .nil)
  · rintro acc Z2 vs2 mt2 ys k hz2 ⟨rfl, O2, T2⟩ hacc
    exact after acc Z2 mt2 ys k (fun _ _ q => hz2 _ _ (z1 _ _ q)) hacc T2 O2
variable {target iter elt : PySem.Expr} {n : Nat} {uf r : Nat → Ty} {I : Nat → List Ob} {Lf : Nat → Lc}
theorem Bs.comp {j : Nat} (hnm : c.G.nm = nm) (hj : Ix nm x j) (hn : ns.contains x = false) (hsw : swapsWith (.ListComp elt [⟨target, iter, [], 0⟩] scope pos) (some (.Name x xp)) p'.line c.env = pure true)
    (hs : ∀ x, foldedSetIterable iter c.env x = pure x) (hclos : closureFor scope c.env = pure cl) (hkind : scope.kind = .function) (hnames : ∀ x ∈ scope.names, x.2 = .local → scope.names.lookup x.1 = some .local) (hcell : ∀ y ∈ scope.names, y.2 ≠ .cell)
    (h1 : Itr c ⟨ns, ts⟩ ob iter n uf (I 0)) (hz : n ≤ 16000000) (ha : ∀ i, i < n → AsnC c scope target (uf i) (Lf i))
    (turn : ∀ i C oC m it o2 acc o3, i < n → NsO m oC → Ev (c.cp scope cl C m) (Lf i) (oIs C oC :: oIs it o2 :: oIs acc o3 :: I i) elt (r i) (oIs C oC :: oIs it o2 :: oIs acc o3 :: I (i + 1)))
    (h2 : ∀ l, l ∉ c.G.ft → Bs c ⟨x :: ns, tRef l :: ts⟩ (oLs l ((List.range n).map r) :: I n) rest o) :
    Bs c ⟨ns, ts⟩ ob (.Assign [.Name x xp] (.ListComp elt [⟨target, iter, [], 0⟩] scope pos) p' :: rest) o := by
  intro Z vs mt s K E p q
  have nd := c.act.nd
  have hl : vs.length = nm.length := hnm ▸ p.S.len
  refine X_comp c.act hnm hsw hs hclos hkind hnames hcell (CL.typed p h1 hz ha turn fun acc Z' mt' ys k z hf T O => ⟨_, hj.put hl, fun s' S' => ?_⟩)
  refine h2 acc hf Z' _ _ s' K E ⟨S', ?_, .cons (b := oLs acc _) ⟨ys, k, rfl, T⟩ O⟩ (q.up z)
  rw [hnm] at nd
  have hL : Lc.Ok ⟨ns, ts⟩ (look c.G.nm) Z' vs := p.l.up z
  show Lc.Ok _ (look c.G.nm) _ _
  rw [hnm] at hL ⊢
  exact hL.put nd hl hj hn rfl
theorem Bs.append {e0 : PySem.Expr} {pl : Sem Bool} {l : Addr} {us us0 : List Ty} (hs : swapsWith (.Call (.Attribute e0 "append" apos) [e] [] p') none pos.line c.env = pure false)
    (he : eval (.Call (.Attribute e0 "append" apos) [e] [] p') c.env = (do let ov ← eval e0 c.env; standAt apos.atName; let (f, first) ← holding [ov] (getMethod ov "append" pl); callWith p' f first (backTo p' (starEach [e] c.env)) (backToKw p' (keywordEach [] c.env))))
    (hx : starEach [e] c.env = (false, eval e c.env) :: starEach [] c.env) (h1 : Ev c.g L ob e0 (tRef l) ob0) (hb : ob0[i]? = some (oLs l us0)) (h2 : Ev c.g L ob0 e t ob1) (hb1 : ob1[i]? = some (oLs l us)) (hz : us.length < 16000000) (h3 : Bs c L (ob1.set i (oLs l (us ++ [t]))) rest o) :
    Bs c L ob (.Expr (.Call (.Attribute e0 "append" apos) [e] [] p') pos :: rest) o := by
  intro Z vs mt s K E p q
  refine X_expr c.act hs (V_mcall he (h1 Z vs mt s _ _ p ?_))
  rintro v Z1 mt1 s1 z1 S1 O1 rfl
  obtain ⟨o1, ⟨xs, n, rfl, T1⟩, hm, _⟩ := O1.pick hb
  refine getMethod_list_append (S1.has hm) rfl rfl (V_cmeth hx rfl (EvL.cons hx h2 .nil _ Z1 vs mt1 s1 _ _ ⟨S1, p.l.up z1, O1⟩ ?_))
  rintro vs2 Z2 mt2 s2 z2 S2 O2 (_ | ⟨r, (_ | _)⟩)
  obtain ⟨o2, ⟨xs, n, rfl, T2⟩, hm, hg, hO⟩ := O2.pick hb1
  refine R_append S2 (hg _) (by rw [sizeLine_eq, T2.length]; exact lin1 hz (by wtm_at "a")) fun s3 S3 => ⟨rfl, h3 Z2 vs _ s3 K E ⟨S3, (p.l.up z1).up z2, ?_⟩ ((q.up z1).up z2)⟩
  exact hO (oLs l (us ++ [t])) _ rfl ⟨_, _, rfl, T2.append (.cons r .nil)⟩
theorem Bs.setLast {v : PySem.Expr} {k : Nat} {p1 p2 : Pos} {l : Addr} {us : List Ty} (hs : swapsWith v (some (.Subscript e (.UnaryOp .USub (.Constant (.int 1) k p1) p2) p')) pos.line c.env = pure false)
    (h1 : Ev c.g L ob v t ob0) (h2 : Ev c.g L ob0 e (tRef l) ob1) (hb : ob1[i]? = some (oLs l (us ++ [t0]))) (h3 : Bs c L (ob1.set i (oLs l (us ++ [t]))) rest o) :
    Bs c L ob (.Assign [.Subscript e (.UnaryOp .USub (.Constant (.int 1) k p1) p2) p'] v pos :: rest) o := by
  intro Z vs mt s K E p q
  refine X_asub hs (h1 Z vs mt s _ _ p fun u Z1 mt1 s1 z1 S1 O1 r1 => h2 Z1 vs mt1 s1 _ _ ⟨S1, p.l.up z1, O1⟩ ?_)
  rintro ov Z2 mt2 s2 z2 S2 O2 rfl
  refine wpAny_UnaryOp (R_int S2 fun tk s3 S3 => R_neg S3 fun tk2 s4 S4 => ?_)
  obtain ⟨o2, ⟨xs, n, rfl, T2⟩, hm, hg, hO⟩ := O2.pick hb
  obtain ⟨ys, y, rfl, T3, r3⟩ := T2.unsnoc
  refine R_setLast S4 hm hg fun n' s5 S5 => h3 Z2 vs _ s5 K E ⟨S5, (p.l.up z1).up z2, ?_⟩ ((q.up z1).up z2)
  exact hO (oLs l (us ++ [t])) _ rfl ⟨_, _, rfl, T3.append (.cons (t.m z2 r1) .nil)⟩
theorem Bs.sw3 {x y z : Str} {xp yp zp tp : Pos} {k i j l : Nat} (hnm : c.G.nm = nm) (hi : Ix nm x i) (hj : Ix nm y j) (hl : Ix nm z l) (nx : (y :: z :: ns).contains x = false) (ny : (z :: ns).contains y = false) (nz : ns.contains z = false)
    (hs : swapsWithSole [.Tuple [.Name x xp, .Name y yp, .Name z zp] k tp] e pos.line c.env = pure false) (hw : swappedStores [.Tuple [.Name x xp, .Name y yp, .Name z zp] k tp] e c.env = pure (some [x, y, z]))
    (h1 : Ev c.g ⟨ns, ts⟩ ob e (tTup [t1, t2, t3]) ob1) (h2 : Bs c ⟨x :: y :: z :: ns, t1 :: t2 :: t3 :: ts⟩ ob1 rest o) : Bs c ⟨ns, ts⟩ ob (.Assign [.Tuple [.Name x xp, .Name y yp, .Name z zp] k tp] e pos :: rest) o := by
  intro Z vs mt s K E p q
  have nd := c.act.nd
  refine X_sw3 c.act hnm hs hw (h1 Z vs mt s _ _ p ?_)
  rintro v Z1 mt1 s1 z1 S1 O1 ⟨a, xs, m, rfl, za, T⟩
  obtain _ | ⟨r1, _ | ⟨r2, _ | ⟨r3, _ | _⟩⟩⟩ := T
  rw [hnm] at nd
  have ln : vs.length = nm.length := hnm ▸ S1.len
  have hL : Lc.Ok ⟨ns, ts⟩ (look c.G.nm) Z1 vs := p.l.up z1
  have ln1 : ∀ v, (vs.set l (some v)).length = nm.length := fun v => by rw [List.length_set, ln]
  have ln2 : ∀ v u, ((vs.set l (some v)).set j (some u)).length = nm.length := fun v u => by rw [List.length_set, List.length_set, ln]
  refine ⟨a, Z1, vs, mt1, _, _, _, m, _, _, _, rfl, S1, S1.z _ _ za, hl.put ln, hj.put (ln1 _), hi.put (ln2 _ _), fun s2 S2 => h2 Z1 _ mt1 s2 K E ⟨S2, ?_, O1⟩ (q.up z1)⟩
  show Lc.Ok _ (look c.G.nm) _ _
  rw [hnm] at hL ⊢
  exact ((hL.put nd ln hl nz r3).put nd (ln1 _) hj ny r2).put nd (ln2 _ _) hi nx r1
theorem Bs.tpC {x y : Str} {xp yp tp : Pos} {k j : Nat} {ca : Addr} (hnm : c.G.nm = nm) (hj : Ix nm x j) (nx : ns.contains x = false) (hk : c.env.kindOf y = some .cell) (hc : c.env.cells.lookup y = some ca) (hb : ob1[i]? = some (oCell0 ca))
    (hs : swapsWithSole [.Tuple [.Name x xp, .Name y yp] k tp] e pos.line c.env = pure false) (hw : swappedStores [.Tuple [.Name x xp, .Name y yp] k tp] e c.env = pure none)
    (h1 : Ev c.g ⟨ns, ts⟩ ob e (tTup [t1, t2]) ob1) (h2 : Bs c ⟨x :: ns, t1 :: ts⟩ (ob1.set i (oCell ca t2)) rest o) : Bs c ⟨ns, ts⟩ ob (.Assign [.Tuple [.Name x xp, .Name y yp] k tp] e pos :: rest) o := by
  intro Z vs mt s K E p q
  have nd := c.act.nd
  refine X_tpC c.act hnm hs hw (h1 Z vs mt s _ _ p ?_)
  rintro v Z1 mt1 s1 z1 S1 O1 ⟨a, xs, m, rfl, za, T⟩
  obtain _ | ⟨r1, _ | ⟨r2, _ | _⟩⟩ := T
  rw [hnm] at nd
  have ln : vs.length = nm.length := hnm ▸ S1.len
  have hL : Lc.Ok ⟨ns, ts⟩ (look c.G.nm) Z1 vs := p.l.up z1
  obtain ⟨o0, h0, hm, hg, hO⟩ := O1.pick hb
  refine ⟨a, Z1, vs, mt1, _, _, m, _, rfl, S1, S1.z _ _ za, hj.put ln, fun s2 S2 => S_cell c.act S2 hk hc hm h0 hg fun o' s3 hd' S3 => h2 Z1 _ _ s3 K E ⟨S3, ?_, ?_⟩ (q.up z1)⟩
  · show Lc.Ok _ (look c.G.nm) _ _
    rw [hnm] at hL ⊢
    exact hL.put nd ln hj nx r1
  · exact hO (oCell ca t2) o' rfl ⟨_, hd', r2⟩
end
section
variable {w : World} {A : Around} {env : Env} {G : Gh} {outer : List Env} {Z : Zt} {vs : List (Option Value)} {mt foot rest : List (Addr × Obj)} {s : Shared} {E Q : Value → Shared → Prop}
variable {f : Addr} {obj : Obj} {fd : FuncData} {body : List Stmt} {binds : List (Str × Value)} {args : List Value} {nm gn : List Str} {ns : List Str} {ts : List Ty} {ob ob' : List Ob} {t : Ty} {n m : Nat}
end
noncomputable def Osub (ob ob' : List Ob) : Prop := ∀ Z mt, Obs Z ob mt → ∃ mt', mt'.Sublist mt ∧ Obs Z ob' mt'
theorem Osub.rfl' {ob : List Ob} : Osub ob ob := fun Z mt h => ⟨mt, .refl _, h⟩
theorem Osub.nil : Osub [] [] := Osub.rfl'
theorem Osub.keep {ob ob' : List Ob} {b b' : Ob} (hd : b'.d = b.d) (k : ∀ Z o, b.r Z o → b'.r Z o) (h : Osub ob ob') : Osub (b :: ob) (b' :: ob') := fun Z mt O => by
  cases O with | cons r O =>
  obtain ⟨mt', s, O'⟩ := h Z _ O
  exact ⟨_, s.cons_cons _, hd ▸ .cons (k _ _ r) O'⟩
theorem Osub.one {ob ob' : List Ob} {b : Ob} (h : Osub ob ob') : Osub (b :: ob) (b :: ob') := .keep rfl (fun _ _ r => r) h
theorem Osub.drop {ob ob' : List Ob} {b : Ob} (h : Osub ob ob') : Osub (b :: ob) ob' := fun Z mt O => by
  cases O with | cons r O =>
  obtain ⟨mt', s, O'⟩ := h Z _ O
  exact ⟨mt', s.cons _, O'⟩
theorem Osub.well {w : World} {d : Addr} {W : Well} {n : Nat} {ob ob' : List Ob} (hk : W.Ok n) (h : Osub ob ob') : Osub (oWell w d W :: ob) (oWells w d n :: ob') := .keep rfl (fun _ _ r => ⟨W, hk, r⟩) h
theorem Osub.wells {w : World} {d : Addr} {m n : Nat} {ob ob' : List Ob} (hk : m ≤ n) (h : Osub ob ob') : Osub (oWells w d m :: ob) (oWells w d n :: ob') := .keep rfl (fun _ _ ⟨W, k, r⟩ => ⟨W, k.mono hk, r⟩) h
section
variable {w : World} {c : Cx w} {L : Lc} {ob ob1 ob2 ob' : List Ob} {t : Ty} {pos : Pos} {e a : PySem.Expr} {es : List PySem.Expr} {p q : Prop} [Decidable p] [Decidable q]
theorem Ev.weak (h : Ev c L ob e t ob1) (k : Osub ob1 ob2) : Ev c L ob e t ob2 := fun Z vs mt s Q E p q => h Z vs mt s Q E p fun v Z' mt' s' z S O r => by
  obtain ⟨mt2, sl, O2⟩ := k _ _ O
  exact q v Z' mt2 s' z (S.sub sl) O2 r
theorem Tq.weak (h : Tq c L ob e p ob1) (k : Osub ob1 ob2) : Tq c L ob e p ob2 := fun Z vs mt s Q E pr q => h Z vs mt s Q E pr fun Z' mt' s' z S O => by
  obtain ⟨mt2, sl, O2⟩ := k _ _ O
  exact q Z' mt2 s' z (S.sub sl) O2
theorem Tq.and_ (h1 : Tq c L ob a p ob1) (k : Osub ob1 ob2) (h2 : p → Tq c L ob1 (.BoolOp .And es pos) q ob2) : Tq c L ob (.BoolOp .And (a :: es) pos) (p ∧ q) ob2 := by
  intro Z vs mt s Q E pr r
  refine isTrue_and (h1 Z vs mt s _ _ pr fun Z1 mt1 s1 z1 S1 O1 => ?_)
  by_cases hp : p
  · rw [decide_eq_true hp, if_pos rfl]
    refine h2 hp Z1 vs mt1 s1 _ _ ⟨S1, pr.l.up z1, O1⟩ fun Z2 mt2 s2 z2 S2 O2 => ?_
    rw [show decide q = decide (p ∧ q) by simp [hp]]
    exact r Z2 mt2 s2 (fun _ _ h => z2 _ _ (z1 _ _ h)) S2 O2
  · rw [decide_eq_false hp, if_neg Bool.false_ne_true]
    obtain ⟨mt2, sl, O2⟩ := k _ _ O1
    rw [show false = decide (p ∧ q) by simp [hp]]
    exact r Z1 mt2 s1 z1 (S1.sub sl) O2
theorem Tq.and0 : Tq c L ob (.BoolOp .And [] pos) True ob := fun Z vs mt s Q E p q => isTrue_and_nil (q Z mt s (fun _ _ k => k) p.S p.o)
theorem Tq.or_ (h1 : Tq c L ob a p ob1) (k : Osub ob1 ob2) (h2 : ¬ p → Tq c L ob1 (.BoolOp .Or es pos) q ob2) : Tq c L ob (.BoolOp .Or (a :: es) pos) (p ∨ q) ob2 := by
  intro Z vs mt s Q E pr r
  refine isTrue_or (h1 Z vs mt s _ _ pr fun Z1 mt1 s1 z1 S1 O1 => ?_)
  by_cases hp : p
  · rw [decide_eq_true hp, if_pos rfl]
    obtain ⟨mt2, sl, O2⟩ := k _ _ O1
    rw [show true = decide (p ∨ q) by simp [hp]]
    exact r Z1 mt2 s1 z1 (S1.sub sl) O2
  · rw [decide_eq_false hp, if_neg Bool.false_ne_true]
    refine h2 hp Z1 vs mt1 s1 _ _ ⟨S1, pr.l.up z1, O1⟩ fun Z2 mt2 s2 z2 S2 O2 => ?_
    rw [show decide q = decide (p ∨ q) by simp [hp]]
    exact r Z2 mt2 s2 (fun _ _ h => z2 _ _ (z1 _ _ h)) S2 O2
theorem Tq.orN : Tq c L ob (.BoolOp .Or [] pos) False ob := fun Z vs mt s Q E p q => isTrue_or_nil (q Z mt s (fun _ _ k => k) p.S p.o)
end
section
variable {w : World} {c : Cb w} {L L' : Lc} {ob ob1 ob2 ob' : List Ob} {t : Ty} {pos : Pos} {e a : PySem.Expr} {body : List Stmt} {o : Out} {ns : List Str} {ts : List Ty}
theorem Bs.opn {d : Addr} {n : Nat} (h : ∀ W : Well, W.Ok n → Bs c L (oWell w d W :: ob) body o) : Bs c L (oWells w d n :: ob) body o := fun Z vs mt s K E p q => by
  obtain ⟨S, l, O⟩ := p
  cases O with | cons hb O =>
  obtain ⟨W, hk, hW⟩ := hb
  exact h W hk Z vs _ s K E ⟨S, l, .cons (b := oWell w d W) hW O⟩ q
theorem Bs.sub (k : Osub ob ob1) (h : Bs c L ob1 body o) : Bs c L ob body o := fun Z vs mt s K E p q => by
  obtain ⟨mt2, sl, O2⟩ := k _ _ p.o
  exact h Z vs mt2 s K E ⟨p.S.sub sl, p.l, O2⟩ q
theorem Bs.ifL {test : PySem.Expr} {orelse rest : List Stmt} {p : Prop} [Decidable p] (h1 : Tq c.g L ob test p ob1) (h2 : p → Bs c L ob1 body (.nxt L ob2)) (h3 : ¬ p → Bs c L ob1 orelse (.nxt L ob2)) (h4 : Bs c L ob2 rest o) : Bs c L ob (.If test body orelse pos :: rest) o := Bs.ifn h1 h2 h3 h4
theorem Bs.swap {b1 b2 : Ob} (h : Bs c L (b2 :: b1 :: ob) body o) : Bs c L (b1 :: b2 :: ob) body o := fun Z vs mt s K E p q => by
  obtain ⟨S, l, O⟩ := p
  cases O with | cons h1 O => cases O with | cons h2 O =>
  exact h Z vs _ s K E ⟨S.perm (List.Perm.swap ..), l, .cons h2 (.cons h1 O)⟩ q
end
section
variable {w : World} {A : Around} {env : Env} {G : Gh} {outer : List Env} {Z : Zt} {vs : List (Option Value)} {mt foot rest : List (Addr × Obj)} {s : Shared} {E Q : Value → Shared → Prop}
variable {f : Addr} {obj : Obj} {fd : FuncData} {body : List Stmt} {binds : List (Str × Value)} {args : List Value} {nm gn : List Str} {ns : List Str} {ts : List Ty} {ob ob' : List Ob} {t : Ty} {n m : Nat}
theorem call_C {csOf : Nat → List (Str × Addr)} {ocs : Nat → List Ob} (a : Act w A env G outer) (S : St G Z vs (foot ++ rest) s) (O : Obs Z ob foot) (hr : Room A n) (hm : m + 1 ≤ n)
    (ho : (KK w).lookup f = some obj) (hd : obj.data = .func fd) (hb : fd.body = .stmts body) (hcd : codeIn (KK w) fd.code fd.qualname = true)
    (hbind : bindArgs fd ⟨args, []⟩ = pure binds) (sc : scopeOkC fd binds nm gn = true) (hL : Lc.Ok ⟨ns, ts⟩ (look nm) Z (nm.map (fun x => (locsOf fd binds).reverse.lookup x)))
    (hcs : ∀ n, cellsFrom n fd.scope.names [] = csOf n) (hlk : ∀ n, ∀ p ∈ csOf n, (csOf n).lookup p.1 = some p.2)
    (hkind : ∀ x ∈ binds, fd.scope.names.lookup x.1 = some .local ∨ (fd.scope.names.lookup x.1 = some .cell ∧ ∀ n, ((csOf n).lookup x.1).isSome = true))
    (hoc : ∀ n (h : Heap), (∀ p ∈ csOf n, ((h.get? p.2).getD default).data = .cell (bindC (fun x => fd.scope.names.lookup x) binds (fun _ => none) p.1)) → Obs Z (ocs n) (cellMt h (csOf n)))
    (h : ∀ (c : Cb w) k, Room c.A m → c.G.nm = nm → c.G.gn = gn → c.env.cells = csOf k → c.env.kindOf = (fun x => fd.scope.names.lookup x) → Bs c ⟨ns, ts⟩ (ocs k ++ ob) body (.ret t ob'))
    (hQ : ∀ v Z' mt' s', (∀ a o, Z a o → Z' a o) → St G Z' vs (mt' ++ rest) s' → Obs Z' ob' mt' → t.r Z' v → Q v s') : wpAny (model P w) A (call (.ref f) args) Q E s := by
  refine call_cells a S hr.dep ho hd hb hcd hbind sc rfl hcs hlk hkind (fun A' env' G' s' cs dA uA hG hnm hgn a' hcl hcs' hki S' hdat => ?_)
  subst hcs'
  have OO : Obs Z (ocs (s.heap.objs.size + 1) ++ ob) (cellMt s'.heap (csOf (s.heap.objs.size + 1)) ++ foot) := by
    have h1 := hoc (s.heap.objs.size + 1) s'.heap hdat
    generalize ocs (s.heap.objs.size + 1) = bs at h1
    generalize cellMt s'.heap (csOf (s.heap.objs.size + 1)) = ms at h1
    clear hdat S'
    induction h1 with
    | nil => exact O
    | cons r _ ih => exact .cons r ih
  refine h ⟨A', env', G', _, a'⟩ (s.heap.objs.size + 1) (hr.sub dA uA hm) hnm hgn hcl hki Z _ _ s' _ _ ⟨S', (by show Lc.Ok _ (look G'.nm) _ _; exact hnm ▸ hL), OO⟩ fun v Z' vs' mt' s'' z S2 O2 r => Back.mk S2 fun S3 => hQ v Z' mt' s'' z S3 O2 r
end
section
variable {w : World} {c : Cb w} {L L' L1 : Lc} {ob ob0 ob1 ob2 ob' : List Ob} {t t' t1 t2 t3 : Ty} {pos p' apos : Pos} {ns nm gn : List Str} {ts us : List Ty} {st : Stmt} {body rest : List Stmt} {o : Out} {e a1 test : PySem.Expr} {es : List PySem.Expr} {word name x : Str} {Lf : Nat → Lc}
noncomputable def Bw {w : World} (c : Cb w) (L : Lc) (ob : List Ob) (body : List Stmt) (o : Out) : Prop := ∀ Z vs mt s K, Pre c.g L ob Z vs mt s → o.K c Z K (fun _ _ => False) → WG (model P w) c.A (execs body c.env) K s
noncomputable def EvG {w : World} (c : Cb w) (L : Lc) (ob : List Ob) (e : PySem.Expr) (t : Ty) (ob' : List Ob) : Prop := ∀ Z vs mt s Q, Pre c.g L ob Z vs mt s → Po c.g Z vs t ob' Q → WG (model P w) c.A (eval e c.env) Q s
noncomputable def TqG {w : World} (c : Cb w) (L : Lc) (ob : List Ob) (e : PySem.Expr) (ob' : List Ob) : Prop := ∀ Z vs mt s Q, Pre c.g L ob Z vs mt s →
  (∀ Z' mt' s', (∀ a o, Z a o → Z' a o) → St c.G Z' vs mt' s' → Obs Z' ob' mt' → Q false s') → WG (model P w) c.A (isTrue e c.env (eval e c.env)) Q s
noncomputable def OpG {w : World} (c : Cb w) (ts : List Ty) (f : List Value → Sem Value) (ob : List Ob) (t : Ty) (ob' : List Ob) : Prop := ∀ Z vs mt s us Q, St c.G Z vs mt s → Obs Z ob mt → TL Z ts us → Po c.g Z vs t ob' Q → WG (model P w) c.A (f us) Q s
theorem Bw.nil : Bw c L ob [] (.nxt L ob) := fun Z vs mt s K p q => GX_nil (q Z vs mt s (fun _ _ k => k) p)
theorem Bw.drop (k : Nat) : Bw c ⟨ns, ts⟩ ob [] (.nxt ⟨ns.drop k, ts.drop k⟩ ob) := fun Z vs mt s K p q => GX_nil (q Z vs mt s (fun _ _ k => k) ⟨p.S, fun i x t h1 h2 => p.l (k + i) x t (by rw [← List.getElem?_drop]; exact h1) (by rw [← List.getElem?_drop]; exact h2), p.o⟩)
theorem Bw.fam {ι : Type} {p : ι → Prop} {Lg : ι → Lc} {obg : ι → List Ob} (h1 : Bs c L ob [st] (.fam p Lg obg)) (h2 : ∀ i, p i → Bw c (Lg i) (obg i) rest o) : Bw c L ob (st :: rest) o := fun Z vs mt s K pr q =>
  GX_any (h1 Z vs mt s _ _ pr fun i hi Z1 vs1 mt1 s1 z1 p1 => NxG.next (h2 i hi Z1 vs1 mt1 s1 K p1 (q.up z1)))
theorem Bw.seq (h1 : Bs c L ob [st] (.nxt L1 ob1)) (h2 : Bw c L1 ob1 rest o) : Bw c L ob (st :: rest) o := fun Z vs mt s K p q =>
  GX_any (h1 Z vs mt s _ _ p fun Z1 vs1 mt1 s1 z1 p1 => NxG.next (h2 Z1 vs1 mt1 s1 K p1 (q.up z1)))
theorem Bw.ret (h : Ev c.g L ob e t ob') : Bw c L ob (.Return (some e) pos :: rest) (.ret t ob') := fun Z vs mt s K p q => GX_ret (.any (h Z vs mt s _ _ p fun v Z' mt' s' z S O r => q v Z' vs mt' s' z S O r))
theorem Bw.retG (h : EvG c L ob e t ob') : Bw c L ob (.Return (some e) pos :: rest) (.ret t ob') := fun Z vs mt s K p q => GX_ret (h Z vs mt s _ p fun v Z' mt' s' z S O r => q v Z' vs mt' s' z S O r)
theorem Bw.skipG (h1 : TqG c L ob test ob1) (h2 : Bw c L ob1 rest o) : Bw c L ob (.If test body [] pos :: rest) o := fun Z vs mt s K p q => by
  refine GX_if (h1 Z vs mt s _ p fun Z1 mt1 s1 z1 S1 O1 => ?_)
  rw [if_neg Bool.false_ne_true]
  exact GX_nil (NxG.next (h2 Z1 vs mt1 s1 K ⟨S1, p.l.up z1, O1⟩ (q.up z1)))
theorem Bw.exprG (hi : interactive c.env = false) (hs : swapsWith e none pos.line c.env = pure false) (h1 : EvG c L ob e tNone ob1) (h2 : Bw c L ob1 rest o) : Bw c L ob (.Expr e pos :: rest) o := fun Z vs mt s K p q =>
  GX_expr hi hs (h1 Z vs mt s _ p fun v Z1 mt1 s1 z1 S1 O1 r1 => ⟨r1, h2 Z1 vs mt1 s1 K ⟨S1, p.l.up z1, O1⟩ (q.up z1)⟩)
theorem Bw.opn {d : Addr} {n : Nat} (h : ∀ W : Well, W.Ok n → Bw c L (oWell w d W :: ob) body o) : Bw c L (oWells w d n :: ob) body o := fun Z vs mt s K p q => by
  obtain ⟨S, l, O⟩ := p
  cases O with | cons hb O =>
  obtain ⟨W, hk, hW⟩ := hb
  exact h W hk Z vs _ s K ⟨S, l, .cons (b := oWell w d W) hW O⟩ q
theorem Bw.opnL {ι : Type} {pr : ι → Prop} {f : ι → Ty} (h : ∀ i, pr i → Bw c ⟨x :: ns, f i :: ts⟩ ob body o) : Bw c ⟨x :: ns, tEx pr f :: ts⟩ ob body o := fun Z vs mt s K p q => by
  obtain ⟨v, e, i, hi, r⟩ := p.l 0 x _ rfl rfl
  exact h i hi Z vs mt s K ⟨p.S, .cons e r (fun i y t h1 h2 => p.l (i + 1) y t h1 h2), p.o⟩ q
theorem Bw.any (h : Bs c L ob body o) : Bw c L ob body o := fun Z vs mt s K p q => .any (h Z vs mt s K _ p q)
theorem Bw.for_ {σ : Type} {I : Nat → σ → Prop} {Ls : Nat → σ → Lc} {obs : Nat → σ → List Ob} {target iter : PySem.Expr} {n : Nat} {us : Nat → Ty} {x0 : σ} (hs : ∀ x, foldedSetIterable iter c.env x = pure x) (h1 : Itr c (Ls 0 x0) ob iter n us (obs 0 x0)) (h0 : I 0 x0)
    (turn : ∀ i x it ot, i < n → I i x → ∃ L1, Asn c target (us i) (Ls i x) L1 ∧ (∃ y, I (i + 1) y ∧ Bw c L1 (obs i x ++ [oIs it ot]) body (.nxt (Ls (i + 1) y) (obs (i + 1) y ++ [oIs it ot]))))
    (after : ∀ x, I n x → Bw c (Ls n x) (obs n x) rest o) : Bw c (Ls 0 x0) ob (.For target iter body [] pos :: rest) o := by
  intro Z vs mt s K p q
  refine GX_for c.act hs (h1 Z vs mt s _ _ p fun it ot IA V Z1 mt1 s1 z1 st hI S1 O1 hV => ?_)
  let J : Nat → Zt → List (Option Value) → List (Addr × Obj) → Prop := fun i Z' vs' mt' => ∃ x, I i x ∧ Lc.Ok (Ls i x) c.g.lk Z' vs' ∧ Obs Z' (obs i x) mt'
  refine LoopG.mk it ot n IA V Z1 vs mt1 J rfl st hI S1 ⟨x0, h0, p.l.up z1, O1⟩ ?_ ?_
  · rintro i v Z5 vs5 mt5 o5 s5 hi hv hz5 ⟨x, hx, hL5, hO5⟩ S5
    obtain ⟨L1, ha, y, hy, hb⟩ := turn i x it o5 hi hx
    refine ha (obs i x ++ [oIs it o5]) Z5 vs5 (mt5 ++ [(it, o5)]) s5 v _ _ ⟨S5.perm (List.perm_append_singleton _ _), hL5, hO5.app (b := oIs it o5) rfl⟩ ((us i).m hz5 (hV i v hi hv)) fun vs6 s6 p6 => ?_
    refine hb Z5 vs6 _ s6 _ p6 fun Z9 vs9 mt9 s9 z9 p9 => ?_
    obtain ⟨mt', o', rfl, h1, h2⟩ := p9.o.unapp
    cases h2
    exact Turn.mk (p9.S.perm (List.perm_append_singleton _ _).symm) (fun _ _ k => z9 _ _ (hz5 _ _ k)) ⟨y, hy, p9.l, h1⟩
  · rintro Z5 vs5 mt5 s5 hz5 ⟨x, hx, hL5, hO5⟩ S5
    exact after x hx Z5 vs5 mt5 s5 K ⟨S5, hL5, hO5⟩ ((q.up z1).up hz5)
theorem Bw.while_ {σ : Type} {I : σ → Prop} {m : σ → Nat} {Ls : σ → Lc} {obs : σ → List Ob} {x0 : σ} (h0 : I x0)
    (turn : ∀ x, I x → (Tq c.g (Ls x) (obs x) test False (obs x) ∧ Bw c (Ls x) (obs x) rest o) ∨ (Tq c.g (Ls x) (obs x) test True (obs x) ∧ ∃ y, I y ∧ m y < m x ∧ Bw c (Ls x) (obs x) body (.nxt (Ls y) (obs y)))) : Bw c (Ls x0) (obs x0) (.While test body [] pos :: rest) o := by
  intro Z vs mt s K p q
  refine GX_while (fun k s => ∃ x Z' vs' mt', I x ∧ m x = k ∧ (∀ a o, Z a o → Z' a o) ∧ Pre c.g (Ls x) (obs x) Z' vs' mt' s) (m x0) ⟨x0, Z, vs, mt, h0, rfl, fun _ _ k => k, p⟩ ?_
  rintro k s1 ⟨x, Z1, vs1, mt1, hx, rfl, z1, p1⟩
  rcases turn x hx with ⟨ht, hb⟩ | ⟨ht, y, hy, hm, hb⟩
  · refine ht Z1 vs1 mt1 s1 _ _ p1 fun Z2 mt2 s2 z2 S2 O2 => ?_
    rw [decide_eq_false id, if_neg Bool.false_ne_true]
    exact hb Z2 vs1 mt2 s2 K ⟨S2, p1.l.up z2, O2⟩ ((q.up z1).up z2)
  · refine ht Z1 vs1 mt1 s1 _ _ p1 fun Z2 mt2 s2 z2 S2 O2 => ?_
    rw [decide_eq_true trivial, if_pos rfl]
    exact hb Z2 vs1 mt2 s2 _ ⟨S2, p1.l.up z2, O2⟩ fun Z3 vs3 mt3 s3 z3 p3 => ⟨m y, hm, y, Z3, vs3, mt3, hy, rfl, fun _ _ k => z3 _ _ (z2 _ _ (z1 _ _ k)), p3⟩
theorem TqG.or {b : Bool} (h1 : Tq c.g L ob a1 False ob1) (h2 : TqG c L ob1 (.BoolOp .Or es pos) ob2) : TqG c L ob (.BoolOp .Or (a1 :: es) pos) ob2 := by
  intro Z vs mt s Q p q
  refine G_orA (whole' := eval (.BoolOp .Or es pos) c.env) (.any (h1 Z vs mt s _ _ p fun Z1 mt1 s1 z1 S1 O1 => ?_))
  rw [decide_eq_false id, if_neg Bool.false_ne_true]
  exact h2 Z1 vs mt1 s1 _ ⟨S1, p.l.up z1, O1⟩ fun Z2 mt2 s2 z2 S2 O2 => q Z2 mt2 s2 (fun _ _ k => z2 _ _ (z1 _ _ k)) S2 O2
theorem TqG.last (h1 : TqG c L ob a1 ob1) : TqG c L ob (.BoolOp .Or [a1] pos) ob1 := by
  intro Z vs mt s Q p q
  refine G_orA (whole' := eval (.BoolOp .Or [] pos) c.env) (h1 Z vs mt s _ p fun Z1 mt1 s1 z1 S1 O1 => ?_)
  rw [if_neg Bool.false_ne_true]
  exact G_or0 (q Z1 mt1 s1 z1 S1 O1)
theorem TqG.neB {r : PySem.Expr} {b : List UInt8} (hm : behindInMarks .NotEq r = false) (h1 : EvG c L ob e (tB b) ob1) (h2 : Ev c.g L ob1 r (tB b) ob2) : TqG c L ob (.Compare e [.NotEq] [r] pos) ob2 := by
  intro Z vs mt s Q p q
  refine G_tcmp hm (h1 Z vs mt s _ p ?_)
  rintro v Z1 mt1 s1 z1 S1 O1 ⟨t1, rfl⟩
  refine h2 Z1 vs mt1 s1 _ _ ⟨S1, p.l.up z1, O1⟩ ?_
  rintro v Z2 mt2 s2 z2 S2 O2 ⟨t2, rfl⟩
  refine R_bne (wpAny_truthy_bool ?_)
  rw [show (b != b) = false by simp]
  exact q Z2 mt2 s2 (fun _ _ k => z2 _ _ (z1 _ _ k)) S2 O2
theorem TqG.not_ (he : isTrue e c.env (eval e c.env) = (do let v ← eval e c.env; standAt e.pos; holding [v] (truthy v))) (h : EvG c L ob e (tBool true) ob1) : TqG c L ob (.UnaryOp .Not e p') ob1 := fun Z vs mt s Q p q => by
  refine G_not (G_value he (h Z vs mt s _ p ?_))
  rintro v Z1 mt1 s1 z1 S1 O1 rfl
  exact wpAny_truthy_bool (q Z1 mt1 s1 z1 S1 O1)
theorem EvG.cdef {f : Addr} {xp : Pos} (hgn : c.G.gn = gn) (hc : gn.contains x = true) (hx : nsIn (KK w) mainGlobals x = some (some (.ref f))) (hk : keepIn (KK w) (.ref f) = true)
    (he : starEach (e :: es) c.env = (false, eval e c.env) :: starEach es c.env) (hp : (backTo pos (starEach es c.env)).any (·.1) = false)
    (h : EvL c.g L ob (e :: es) ts ob1) (ho : OpG c ts (fun us => PySem.call (.ref f) us) ob1 t ob') : EvG c L ob (.Call (.Name x xp) (e :: es) [] pos) t ob' := fun Z vs mt s Q p q =>
  GV_name (R_glob c.act p.S hgn hc hx (GV_cdef c.act hk he hp (h pos Z vs mt s _ _ p fun us Z1 mt1 s1 z1 S1 O1 T1 => KDef.mk S1 (ho Z1 vs mt1 s1 us _ S1 O1 T1 (q.up z1)))))
theorem EvG.meth {C f : Addr} {t0 : Ty} {fs : List (Str × Ty)} {pl : Sem Bool} (he : eval (.Call (.Attribute e name apos) (a1 :: es) [] pos) c.env = (do let ov ← eval e c.env; standAt apos.atName; let (f, first) ← holding [ov] (getMethod ov name pl); callWith pos f first (backTo pos (starEach (a1 :: es) c.env)) (backToKw pos (keywordEach [] c.env))))
    (hx : starEach (a1 :: es) c.env = (false, eval a1 c.env) :: starEach es c.env) (hp : (backTo pos (starEach es c.env)).any (·.1) = false) (ok : MethOk w C name f) (hk : keepIn (KK w) (.ref f) = true) (h : Ev c.g L ob e t0 ob1) (hI : Ins c.g ob1 t0 C fs) (hn : fs.all (fun f => f.1 != name) = true) (h2 : EvL c.g L ob1 (a1 :: es) us ob2)
    (ho : OpG c (t0 :: us) (fun us => PySem.call (.ref f) us) ob2 t ob') : EvG c L ob (.Call (.Attribute e name apos) (a1 :: es) [] pos) t ob' := by
  intro Z vs mt s Q p q
  refine GV_mcall he (h Z vs mt s _ _ p fun v Z1 mt1 s1 z1 S1 O1 r1 => ?_)
  obtain ⟨x, dx, od, kvs, rfl, hx1, hd, hD, hF⟩ := hI _ _ _ _ _ S1 O1 r1
  refine A_meth ok c.act S1 hx1 hd hD (hF.none hn) ?_
  refine GV_cdef c.act hk hx hp (h2 pos Z1 vs mt1 s1 _ _ ⟨S1, p.l.up z1, O1⟩ fun us Z2 mt2 s2 z2 S2 O2 T2 => ?_)
  exact KDef.mk S2 (ho Z2 vs mt2 s2 _ Q S2 O2 (.cons (t0.m z2 r1) T2) ((q.up z1).up z2))
end
open PySem
noncomputable def bitsL : List (Nat × Nat) := [(8, 8), (6, 10), (10, 6), (8, 4)]
noncomputable def worthL : List (List UInt8) := [[], [97], [98, 99]]
noncomputable def cutRow (n : Nat) (p : Nat × Nat) : List (Nat × Nat) := [(p.1, 0), (n - p.1, p.2)]
noncomputable def cutRows (n : Nat) (cs : List Nat) : List (List (Nat × Nat)) := [(n, 0)] :: (cs.zipIdx 1).map (cutRow n)
theorem cutRows_len (n : Nat) (cs : List Nat) : (cutRows n cs).length = cs.length + 1 := by simp [cutRows]
theorem cutRows_snoc (n : Nat) (cs : List Nat) (c : Nat) : cutRows n (cs ++ [c]) = cutRows n cs ++ [cutRow n (c, cs.length + 1)] := by
  simp [cutRows, List.zipIdx_append, Nat.add_comm]
noncomputable def ones (k : Nat) : List (Nat × Nat) := (List.range k).map fun i => (1, i)
theorem ones_succ (k : Nat) : ones (k + 1) = ones k ++ [(1, k)] := by simp [ones, List.range_succ]
noncomputable def topRow (n k : Nat) (last : Bool) : List (Nat × Nat) := if last then ones (k - 1) ++ [(n - k + 1, k - 1)] else ones k ++ [(n - k, 0)]
structure Shape where
  lb : Nat
  mb : Nat
  many : Nat
  turned : Nat
  cs : List Nat
  ex : Bool
  ds : List Nat
  last : Bool
noncomputable def Shape.ws (H : Shape) : List (List UInt8) := (List.range H.many).map fun p => worthL.getD ((p + H.turned) % 3) []
noncomputable def Shape.lows (H : Shape) : List (List (Nat × Nat)) := cutRows (2 ^ H.lb) H.cs ++ if H.ex then [[(2 ^ H.lb, 1)]] else []
noncomputable def Shape.mids (H : Shape) : List (List (Nat × Nat)) := cutRows (2 ^ H.mb) H.ds
noncomputable def Shape.size (H : Shape) : Nat := 1114112 / 2 ^ (H.lb + H.mb)
noncomputable def Shape.top (H : Shape) : List (Nat × Nat) := topRow H.size H.mids.length H.last
noncomputable def Shape.tb (H : Shape) : Tb := ⟨(H.lb, H.mb), encN H.lb ++ encN H.mb, H.ws, H.lows, H.mids, H.top⟩
structure Shape.Ok (H : Shape) : Prop where
  bits : (H.lb, H.mb) ∈ bitsL
  m1 : 1 ≤ H.many
  m3 : H.many ≤ 3
  tu : H.turned < 3
  cn : H.cs.length + 1 = H.many
  cb : ∀ c ∈ H.cs, 1 ≤ c ∧ c < 2 ^ H.lb
  ex : H.ex = true → 2 ≤ H.many
  dn : H.ds.length + 1 = H.lows.length
  db : ∀ c ∈ H.ds, 1 ≤ c ∧ c < 2 ^ H.mb
  last : H.last = false → 2 ≤ H.mids.length
theorem Shape.lows_len (H : Shape) : H.lows.length = H.cs.length + 1 + if H.ex then 1 else 0 := by
  unfold Shape.lows
  rw [List.length_append, cutRows_len]
  split <;> rfl
theorem Shape.mids_len {H : Shape} (ok : H.Ok) : H.mids.length = H.lows.length := by
  unfold Shape.mids
  rw [cutRows_len, ok.dn]
theorem Shape.lows_le {H : Shape} (ok : H.Ok) : 1 ≤ H.lows.length ∧ H.lows.length ≤ 4 := by
  have := H.lows_len
  have := ok.cn
  have := ok.m3
  split at * <;> omega
theorem bits_mem {l m : Nat} (h : (l, m) ∈ bitsL) : (l = 8 ∧ m = 8) ∨ (l = 6 ∧ m = 10) ∨ (l = 10 ∧ m = 6) ∨ (l = 8 ∧ m = 4) := by
  simpa [bitsL] using h
structure BitsLe (l m : Nat) : Prop where
  l10 : l ≤ 10
  m10 : m ≤ 10
  s12 : 12 ≤ l + m
  s16 : l + m ≤ 16
  l6 : 6 ≤ l
  m4 : 4 ≤ m
theorem bits_le {l m : Nat} (h : (l, m) ∈ bitsL) : BitsLe l m := by
  obtain ⟨rfl, rfl⟩ | ⟨rfl, rfl⟩ | ⟨rfl, rfl⟩ | ⟨rfl, rfl⟩ := bits_mem h <;> exact ⟨by decide, by decide, by decide, by decide, by decide, by decide⟩
section
variable {w : World} {A : Around} {env : Env} {G : Gh} {outer : List Env} {Z : Zt} {vs : List (Option Value)} {mt : List (Addr × Obj)} {s : Shared} {E Q : Value → Shared → Prop}
theorem bits_at (a : Act w A env G outer) (S : St G Z vs mt s) : ∃ xs c, Z 332 (To xs c) ∧ All2 (PairV Z) xs bitsL := by
  have h0 : Z 332 (To [.ref 328, .ref 329, .ref 330, .ref 331] 0) := a.kz S (by show List.lookup _ (Mine.hd.heap_1 _) = _; k_is)
  have h1 : Z 328 (To [.int 8 695, .int 8 696] 0) := a.kz S (by show List.lookup _ (Mine.hd.heap_1 _) = _; k_is)
  have h2 : Z 329 (To [.int 6 697, .int 10 698] 0) := a.kz S (by show List.lookup _ (Mine.hd.heap_1 _) = _; k_is)
  have h3 : Z 330 (To [.int 10 699, .int 6 700] 0) := a.kz S (by show List.lookup _ (Mine.hd.heap_1 _) = _; k_is)
  have h4 : Z 331 (To [.int 8 701, .int 4 702] 0) := a.kz S (by show List.lookup _ (Mine.hd.heap_1 _) = _; k_is)
  exact ⟨_, _, h0, .cons ⟨_, _, _, _, rfl, h1⟩ (.cons ⟨_, _, _, _, rfl, h2⟩ (.cons ⟨_, _, _, _, rfl, h3⟩ (.cons ⟨_, _, _, _, rfl, h4⟩ .nil)))⟩
theorem worths_at (a : Act w A env G outer) (S : St G Z vs mt s) : ∃ xs c, Z 333 (To xs c) ∧ All2 BytesV xs worthL := by
  have h0 : Z 333 (To [.bytes #[] 704, .bytes #[97] 705, .bytes #[98, 99] 706] 0) := a.kz S (by show List.lookup _ (Mine.hd.heap_1 _) = _; k_is)
  exact ⟨_, _, h0, .cons ⟨_, rfl⟩ (.cons ⟨_, rfl⟩ (.cons ⟨_, rfl⟩ .nil))⟩
end
local macro_rules | `(tactic| wtm_at "ix") => `(tactic| with_reducible (first | exact Ix.here | (apply Ix.there; wtm_at "ix")))
local macro_rules | `(tactic| wtm_at "lo") => `(tactic| exact Ev.loc _ (by wtm_at "ix") rfl)
section
variable {w : World} {c : Cb w} {L : Lc} {ob ob' ob1 ob2 ob3 ob4 ob5 ob6 : List Ob} {pos : Pos} {gn : List Str}
theorem Ev.lawBits (hgn : c.G.gn = gn) (hc : gn.contains "_law_bits" = true) : Ev c.g L ob (.Name "_law_bits" pos) (tTup (bitsL.map tPair)) ob := fun Z vs mt s Q E p q => by
  refine R_glob c.act p.S hgn hc (by wtm_at "kis") ?_
  obtain ⟨xs, n, h, hx⟩ := bits_at c.act p.S
  exact q.at p.S p.o ⟨332, xs, n, rfl, h, TL.all2.mpr (hx.mono fun _ _ => tPair_iff.mpr)⟩
theorem Ev.lawWorths {scope : Scope} {cl : List (Str × Addr)} {C : Addr} {m : Str → Option Value} (hkind : scope.kind = .function) (hx : (relabel scope c.env).names.lookup ("_law_worths" : Str) = some .globalImplicit) : Ev (c.cp scope cl C m) L ob (.Name "_law_worths" pos) (tTup (worthL.map tB)) ob := fun Z vs mt s Q E p q => by
  refine C_glob c.act p.S hkind hx (by wtm_at "kis") (by kernel_rfl) ?_
  obtain ⟨xs, n, h, hx⟩ := worths_at c.act p.S
  exact q.at p.S p.o ⟨333, xs, n, rfl, h, TL.all2.mpr hx⟩
theorem Ev.tbDict {T : Tb} {e1 e2 e3 e4 e5 e6 : PySem.Expr} {k1 k2 k3 k4 k5 k6 : Nat} {p1 p2 p3 p4 p5 p6 : Pos} (hf : ∀ b, Ev c.g L (b :: ob) e1 (tPair T.bits) (b :: ob)) (h2 : ∀ b, Ev c.g L (b :: ob) e2 (tB T.bo) (b :: ob)) (h3 : ∀ b, Ev c.g L (b :: ob) e3 (tBs T.ws) (b :: ob)) (h4 : ∀ b, Ev c.g L (b :: ob) e4 (tStage T.lows) (b :: ob)) (h5 : ∀ b, Ev c.g L (b :: ob) e5 (tStage T.mids) (b :: ob)) (h6 : ∀ b, Ev c.g L (b :: ob) e6 (tRow T.top) (b :: ob)) :
    Ev c.g L ob (.Dict [some (.Constant (.str "bits") k1 p1), some (.Constant (.str "bits octets") k2 p2), some (.Constant (.str "worths") k3 p3), some (.Constant (.str "lows") k4 p4), some (.Constant (.str "mids") k5 p5), some (.Constant (.str "top") k6 p6)] [e1, e2, e3, e4, e5, e6] pos) (tTb w T) ob := by
  intro Z vs mt s Q E p q
  refine R_dictS c.act p.S rfl rfl (by simp) (nb rfl) fun d s1 hfd hsys S1 => ?_
  have hb : ∀ {e : PySem.Expr} {t : Ty}, (∀ b, Ev c.g L (b :: ob) e t (b :: ob)) → ∀ (x : Str) (k : Nat) (pp : Pos) Z1 mt1 s1 (Q : Value → Value → Shared → Prop) E, (∀ a o, Z a o → Z1 a o) → St c.G Z1 vs ((d, emptyDict) :: mt1) s1 → Obs Z1 ob mt1 → (∀ tk v Z2 mt2 s2, (∀ a o, Z1 a o → Z2 a o) → St c.G Z2 vs ((d, emptyDict) :: mt2) s2 → Obs Z2 ob mt2 → t.r Z2 v → Q (.str x tk) v s2) →
      wpAny (model P w) c.A (eval (.Constant (.str x) k pp) c.env) (fun kv s₁ => wpAny (model P w) c.A (eval e c.env) (fun vv s₂ => Q kv vv s₂) E s₁) E s1 := by
    intro e t h x k pp Z1 mt1 s1 Q E z1 S1 O1 hQ
    refine R_str S1 fun tk s2 S2 => ?_
    refine h (oIs d emptyDict) Z1 vs _ s2 _ _ ⟨S2, p.l.up z1, .cons (b := oIs d emptyDict) rfl O1⟩ fun v Z2 mt2 s3 z2 S3 O3 r3 => ?_
    cases O3 with | cons hd O3 =>
    cases hd
    exact hQ tk v Z2 _ s3 z2 S3 O3 r3
  refine pairTrees_cons_walk (hb hf _ _ _ Z mt s1 _ _ (fun _ _ h => h) S1 p.o fun _ v1 Z1 mt1 s1 z1 S1 O1 r1 => ?_)
  refine pairTrees_cons_walk (hb h2 _ _ _ Z1 mt1 s1 _ _ z1 S1 O1 fun _ v2 Z2 mt2 s2 z2 S2 O2 r2 => ?_)
  have z2' := fun a o h => z2 a o (z1 a o h)
  refine pairTrees_cons_walk (hb h3 _ _ _ Z2 mt2 s2 _ _ z2' S2 O2 fun _ v3 Z3 mt3 s3 z3 S3 O3 r3 => ?_)
  have z3' := fun a o h => z3 a o (z2' a o h)
  refine pairTrees_cons_walk (hb h4 _ _ _ Z3 mt3 s3 _ _ z3' S3 O3 fun _ v4 Z4 mt4 s4 z4 S4 O4 r4 => ?_)
  have z4' := fun a o h => z4 a o (z3' a o h)
  refine pairTrees_cons_walk (hb h5 _ _ _ Z4 mt4 s4 _ _ z4' S4 O4 fun _ v5 Z5 mt5 s5 z5 S5 O5 r5 => ?_)
  have z5' := fun a o h => z5 a o (z4' a o h)
  refine pairTrees_cons_walk (hb h6 _ _ _ Z5 mt5 s5 _ _ z5' S5 O5 fun _ v6 Z6 mt6 s6 z6 S6 O6 r6 => ?_)
  refine pairTrees_nil_walk ?_
  refine ⟨[("bits", v1), ("bits octets", v2), ("worths", v3), ("lows", v4), ("mids", v5), ("top", v6)], Z6, vs, mt6, ⟨rfl, rfl, rfl, rfl, rfl, rfl, rfl, rfl, rfl, rfl, rfl, rfl, trivial⟩, S6, fun oe s7 hoe S7 => ?_⟩
  rw [merged_nil_of_nodup _ (by show (["bits", "bits octets", "worths", "lows", "mids", "top"] : List Str).Nodup; decide +kernel)] at hoe
  have k5 : ∀ a o, Z5 a o → Z6 a o ∨ (a = d ∧ o = oe) := fun a o h => .inl (z6 a o h)
  have k4 := fun a o (h : Z4 a o) => k5 a o (z5 a o h)
  have k3 := fun a o (h : Z3 a o) => k4 a o (z4 a o h)
  have k2 := fun a o (h : Z2 a o) => k3 a o (z3 a o h)
  have k1 := fun a o (h : Z1 a o) => k2 a o (z2 a o h)
  exact q (.ref d) _ mt6 s7 (fun a o h => k1 a o (z1 a o h)) (S7.freeze hfd.2) (O6.up fun _ _ h => .inl h) ⟨d, oe, rfl, .inr ⟨rfl, rfl⟩, hsys, v1, v2, v3, v4, v5, v6, tPair_iff.mp (Ty.m _ k1 r1), Ty.m _ k2 r2, tBs_iff.mp (Ty.m _ k3 r3), tStage_iff.mp (Ty.m _ k4 r4), tStage_iff.mp (Ty.m _ k5 r5), tRow_iff.mp (Ty.m _ (fun _ _ h => .inl h) r6), hoe⟩
end
noncomputable def worthT (T : Tb) (code : Nat) : Option (List UInt8) :=
  match atRow T.top (code / (2 ^ T.bits.1 * 2 ^ T.bits.2)) with
  | none => none
  | some m => match T.mids[m]? with
    | none => none
    | some mid => match atRow mid (code / 2 ^ T.bits.1 % 2 ^ T.bits.2) with
      | none => none
      | some l => match T.lows[l]? with
        | none => none
        | some low => match atRow low (code % 2 ^ T.bits.1) with
          | none => none
          | some v => T.ws[v]?
theorem pow_16 {a : Nat} (h : a ≤ 16) : 2 ^ a ≤ 65536 := Nat.le_trans (Nat.pow_le_pow_right (by decide) h) (by decide)
theorem pow_pos2 (a : Nat) : 0 < 2 ^ a := Nat.pow_pos (by decide)
theorem mulN (a b : Nat) : ((a : Int) * (b : Int)) = ((a * b : Nat) : Int) := (Int.natCast_mul a b).symm
section
variable {w : World} {A : Around} {env : Env} {G : Gh} {outer : List Env} {Z : Zt} {vs : List (Option Value)} {mt : List (Addr × Obj)} {s : Shared} {E Q : Value → Shared → Prop}
theorem fn_worth {d : Addr} {o : Obj} (T : Tb) {code : Nat} {tc : Tok} {b : List UInt8} (a : Act w A env G outer) (S : St G Z vs mt s) (hr : Room A 2) (hd : Z d o) (hT : TbO w Z T o) (hbits : T.bits.1 + T.bits.2 ≤ 16) (ok : T.Ok) (hc : code < 2 ^ 60) (hb : worthT T code = some b)
    (h : ∀ t s', St G Z vs mt s' → Q (.bytes b.toArray t) s') : wpAny (model P w) A (call (.ref 397) [.ref d, .int (code : Int) tc]) Q E s := by
  refine' call_def (f := 397) (foot := []) (rest := mt) (nm := ["w", "code", "low_size", "mid_size", "mid", "low"]) (gn := ["_law_at"]) (binds := [("w", .ref d), ("code", .int (code : Int) tc)]) (vs₁ := [some (.ref d), some (.int (code : Int) tc), none, none, none, none]) (X := fun _ _ _ _ => False) a S ?hd ?ho ?k1 ?k2 ?k3 ?k4 ?k5 ?k6 ?h (fun _ _ _ _ _ _ _ h => h.elim)
  wtm_at "call"
  case hd => exact hr.dep
  case h =>
    intro A' env' G' s' dA uA hG hnm hgn a' S'
    have hr1 : Room A' 1 := hr.sub dA uA (by decide)
    obtain ⟨vb, vo, vw, vl, vm, vt, hvb, hvo, ⟨lv, xv, cv, rfl, hlv, hxv⟩, ⟨ll, xl, cl, rfl, hll, hxl⟩, ⟨lm, xm, cm, rfl, hlm, hxm⟩, hvt, hD⟩ := hT
    obtain ⟨pb, tb1, tb2, cb, rfl, hpb⟩ := hvb
    have h3 := ok.wn
    have h4 := ok.ln
    have h5 := ok.mn
    have p1 := pow_16 (a := T.bits.1) (by exact lin1 hbits (by wtm_at "a"))
    have p2 := pow_16 (a := T.bits.2) (by exact lin1 hbits (by wtm_at "a"))
    have z1 := pow_pos2 T.bits.1
    have z2 := pow_pos2 T.bits.2
    have p3 : 2 ^ T.bits.1 * 2 ^ T.bits.2 ≤ 65536 := by rw [← Nat.pow_add]; exact pow_16 hbits
    have z3 : 0 < 2 ^ T.bits.1 * 2 ^ T.bits.2 := by rw [← Nat.pow_add]; exact pow_pos2 _
    unfold worthT at hb
    generalize hL1 : 2 ^ T.bits.1 = L1 at hb p1 z1 p3 z3
    generalize hL2 : 2 ^ T.bits.2 = L2 at hb p2 z2 p3 z3
    cases q1 : atRow T.top (code / (L1 * L2)) with
    | none => rw [q1] at hb; cases hb
    | some m =>
      rw [q1] at hb
      dsimp only at hb
      cases q2 : T.mids[m]? with
      | none => rw [q2] at hb; cases hb
      | some mid =>
        rw [q2] at hb
        dsimp only at hb
        cases q3 : atRow mid (code / L1 % L2) with
        | none => rw [q3] at hb; cases hb
        | some l =>
          rw [q3] at hb
          dsimp only at hb
          cases q4 : T.lows[l]? with
          | none => rw [q4] at hb; cases hb
          | some low =>
            rw [q4] at hb
            dsimp only at hb
            cases q5 : atRow low (code % L1) with
            | none => rw [q5] at hb; cases hb
            | some n =>
              rw [q5] at hb
              dsimp only at hb
              have i2 : m < T.mids.length := (List.getElem?_eq_some_iff.mp q2).1
              have i4 : l < T.lows.length := (List.getElem?_eq_some_iff.mp q4).1
              have i6 : n < T.ws.length := (List.getElem?_eq_some_iff.mp hb).1
              obtain ⟨u2, g2, hmid⟩ := hxm.get' q2
              obtain ⟨u4, g4, hlow⟩ := hxl.get' q4
              obtain ⟨u6, g6, k6, rfl⟩ := hxv.get' hb
              refine X_sw2 a' hnm rfl (sw_two a' (a'.kloc _ (by rw [hnm]; decide)) (a'.kloc _ (by rw [hnm]; decide)) rfl (by wtm_at "d") rfl rfl rfl) ?_
              repeat wtm_at "v"
              refine T_dict rfl (by assumption) (St.z (by assumption) _ _ hd) hD rfl fun s1 S1 => ?_
              repeat wtm_at "v"
              refine T_tup (i := 0) rfl (St.z (by assumption) _ _ hpb) rfl (by exact (by wtm_at "p")) rfl ?_
              refine R_pow2 (n := T.bits.1) (by assumption) (by exact lin1 hbits (by wtm_at "a")) fun t2 s2 S2 => ?_
              rw [hL1]
              repeat wtm_at "v"
              refine T_dict rfl (by assumption) (St.z (by assumption) _ _ hd) hD rfl fun s3 S3 => ?_
              repeat wtm_at "v"
              refine T_tup (i := 1) rfl (St.z (by assumption) _ _ hpb) rfl (by exact (by wtm_at "p")) rfl ?_
              refine R_pow2 (n := T.bits.2) (by assumption) (by exact lin1 hbits (by wtm_at "a")) fun t4 s4 S4 => ?_
              rw [hL2]
              repeat wtm_at "v"
              rename_i tp s5 S5 _
              refine ⟨tp, _, _, _, _, _, _, _, _, rfl, S5.nil, S5.has .here, by wtm_at "put", by wtm_at "put", fun s6 S6 => ?_⟩
              wtm_at "x"
              repeat wtm_at "v"
              refine T_dict rfl (by assumption) (St.z (by assumption) _ _ hd) hD rfl fun s7 S7 => ?_
              repeat wtm_at "v"
              refine T_dict rfl (by assumption) (St.z (by assumption) _ _ hd) hD rfl fun s8 S8 => ?_
              repeat wtm_at "v"
              rw [mulN, fdivN]
              refine (KDef.mk ((by assumption)) ?_)
              refine fn_at T.top _ m a' (by assumption) hr1 hvt q1 fun t9 s9 S9 => ?_
              refine T_list rfl (S9.isListZ hlm) rfl (by exact lin2 (b := 9223372036854775808) h5 i2 (by wtm_at "a")) g2 ?_
              wtm_at "set"
              rename_i s10 S10
              wtm_at "x"
              repeat wtm_at "v"
              refine T_dict rfl (by assumption) (St.z (by assumption) _ _ hd) hD rfl fun s11 S11 => ?_
              repeat wtm_at "v"
              refine (KDef.mk ((by assumption)) ?_)
              refine fn_at mid _ l a' (by assumption) hr1 hmid q3 fun t12 s12 S12 => ?_
              refine T_list rfl (S12.isListZ hll) rfl (by exact lin2 (b := 9223372036854775808) h4 i4 (by wtm_at "a")) g4 ?_
              wtm_at "set"
              rename_i s13 S13
              wtm_at "x"
              repeat wtm_at "v"
              refine T_dict rfl (by assumption) (St.z (by assumption) _ _ hd) hD rfl fun s14 S14 => ?_
              repeat wtm_at "v"
              refine (KDef.mk ((by assumption)) ?_)
              refine fn_at low _ n a' (by assumption) hr1 hlow q5 fun t15 s15 S15 => ?_
              refine T_list rfl (S15.isListZ hlv) rfl (by exact lin2 (b := 9223372036854775808) h3 i6 (by wtm_at "a")) g6 ?_
              exact (Back.mk S15 (fun S => h _ _ S))
end
section
variable {w : World} {A : Around} {env : Env} {G : Gh} {outer : List Env} {Z : Zt} {vs : List (Option Value)} {mt : List (Addr × Obj)} {s : Shared} {E Q : Value → Shared → Prop}
set_option maxHeartbeats 4000000 in
theorem ty_table {d : Addr} {o : Obj} {W : Well} {n : Nat} (a : Act w A env G outer) (S : St G Z vs ((d, o) :: mt) s) (hr : Room A 6) (hW : WellO w Z W o) (hk : W.Ok n) (hn : n ≤ 900)
    (hQ : ∀ v Z' mt' s', (∀ a o, Z a o → Z' a o) → St G Z' vs (mt' ++ mt) s' → Obs Z' [oWells w d (n + 20)] mt' → (tEx Shape.Ok fun H => tTb w H.tb).r Z' v → Q v s') : wpAny (model P w) A (call (.ref 383) [.ref d]) Q E s := by
  refine' call_C (f := 383) (foot := [(d, o)]) (rest := mt) (binds := [("well", .ref d)]) (nm := ["well", "bits", "low_size", "mid_size", "top_size", "many", "worths", "lows", "number", "cut", "mids", "top", "octets"]) (gn := ["_law_bits", "_law_draw", "range", "len", "_law_number"])
    (ns := ["well"]) (ts := [tRef d]) (ob := [oWell w d W]) (ob' := [oWells w d (n + 20)]) (t := tEx Shape.Ok fun H => tTb w H.tb) (csOf := fun n => [("turned", n)]) (ocs := fun n => [oCell0 n]) (n := 6) (m := 5) a S ?O hr (by decide) ?ho ?k1 ?k2 ?k3 ?k4 ?k5 ?hL ?k7 ?k8 ?k9 ?hoc ?h hQ
  case O => exact .cons (b := oWell w d W) hW .nil
  case ho => (show List.lookup _ (Mine.hd.heap_1 _) = _; k_is)
  case k1 => exact rfl
  case k2 => exact rfl
  case k3 => kernel_rfl
  case k4 => kernel_rfl
  case k5 => kernel_rfl
  case hL => exact .cons (v := .ref d) (by kernel_rfl) rfl .nil
  case k7 => intro n; kernel_rfl
  case k8 => intro n p hp; rw [List.mem_singleton] at hp; subst hp; rfl
  case k9 => intro x hx; rw [List.mem_singleton] at hx; subst hx; exact .inl (by kernel_rfl)
  case hoc => exact fun n h hd => .cons (b := oCell0 n) (hd ("turned", n) (.head _)) .nil
  case h =>
    intro c k hr hnm hgn hcl hki
    have hr1 : Room c.A 1 := hr.le (by decide)
    have kt : c.env.kindOf "turned" = some .cell := by rw [hki]; kernel_rfl
    have lt : c.env.cells.lookup ("turned" : Str) = some k := by rw [hcl]; rfl
    clear hcl hki
    refine Bs.swap ?_
    have hi : W.draw 4 < 4 := W.draw_lt (by decide)
    obtain ⟨⟨lb, mb⟩, hbits⟩ : ∃ p, bitsL[W.draw 4]? = some p := ⟨_, List.getElem?_eq_getElem (by exact hi)⟩
    have hmem : (lb, mb) ∈ bitsL := List.mem_of_getElem? hbits
    have hble := bits_le hmem
    have hlb : lb ≤ 10 := hble.l10
    have hmb : mb ≤ 10 := hble.m10
    have hsum : lb + mb ≤ 16 := hble.s16
    have hL := pow_16 (a := lb) (by exact lin1 hsum (by wtm_at "a"))
    have hM := pow_16 (a := mb) (by exact lin1 hsum (by wtm_at "a"))
    have hS := pow_16 (a := lb + mb) hsum
    have zS := pow_pos2 (lb + mb)
    have hL6 : 2 ^ 6 ≤ 2 ^ lb := Nat.pow_le_pow_right (by decide) hble.l6
    have hM4 : 2 ^ 4 ≤ 2 ^ mb := Nat.pow_le_pow_right (by decide) hble.m4
    have hN17 : 17 ≤ 1114112 / 2 ^ (lb + mb) := (Nat.le_div_iff_mul_le zS).mpr (Nat.le_trans (Nat.mul_le_mul_left 17 hS) (by decide))
    refine Bs.set (t1 := tPair (lb, mb)) hnm (by wtm_at "ix") (by wtm_at "d") rfl (Ev.tupI (ts := bitsL.map tPair) (Ev.lawBits hgn (by wtm_at "d")) (Ev.draw hgn (by wtm_at "d") hr1 rfl rfl (by wtm_at "lo") Ev.nat hk (by exact lin1 hn (by wtm_at "a")) (by decide)) (by rw [List.getElem?_map, hbits]; rfl) (nb rfl) (fun _ _ _ => ⟨_, rfl⟩)) ?_
    refine Bs.sw3 (t1 := tN (2 ^ lb)) (t2 := tN (2 ^ mb)) (t3 := tN (1114112 / 2 ^ (lb + mb))) hnm (by wtm_at "ix") (by wtm_at "ix") (by wtm_at "ix") (by wtm_at "d") (by wtm_at "d") (by wtm_at "d") rfl (sw_three c.act (c.act.kloc _ (by rw [hnm]; decide)) (c.act.kloc _ (by rw [hnm]; decide)) (c.act.kloc _ (by rw [hnm]; decide)) rfl rfl (by wtm_at "d") rfl rfl rfl)
      (Ev.tup (.cons rfl (Ev.pow Ev.nat (Ev.tupI (ts := [tN lb, tN mb]) (by wtm_at "lo") Ev.nat rfl (nb rfl) (fun _ _ _ => ⟨_, rfl⟩)) (by decide) (by exact lin1 hsum (by wtm_at "a")))
        (.cons rfl (Ev.pow Ev.nat (Ev.tupI (ts := [tN lb, tN mb]) (by wtm_at "lo") Ev.nat rfl (nb rfl) (fun _ _ _ => ⟨_, rfl⟩)) (by decide) (by exact lin1 hsum (by wtm_at "a")))
        (.cons rfl (Ev.fdiv Ev.nat (Ev.pow Ev.nat (Ev.add (Ev.tupI (ts := [tN lb, tN mb]) (by wtm_at "lo") Ev.nat rfl (nb rfl) (fun _ _ _ => ⟨_, rfl⟩)) (Ev.tupI (ts := [tN lb, tN mb]) (by wtm_at "lo") Ev.nat rfl (nb rfl) (fun _ _ _ => ⟨_, rfl⟩))) (by decide) (by exact lin1 hsum (by wtm_at "a"))) zS (by exact lin1 (b := 1073741824) hS (by wtm_at "a"))) .nil))) (nb rfl)) ?_
    have eS : 2 ^ (lb + mb) = 2 ^ lb * 2 ^ mb := Nat.pow_add ..
    generalize hN : 1114112 / 2 ^ (lb + mb) = N at hN17
    clear hS zS
    generalize hLe : 2 ^ lb = L at hL hL6 eS
    generalize hMe : 2 ^ mb = M at hM hM4 eS
    clear eS
    have hk1 := hk.next
    have hm1 : W.next.draw 3 < 3 := Well.draw_lt _ (by decide)
    have htu : W.next.next.draw 3 < 3 := Well.draw_lt _ (by decide)
    refine Bs.tpC (t1 := tN (1 + W.next.draw 3)) (t2 := tN (W.next.next.draw 3)) (i := 1) hnm (by wtm_at "ix") (by wtm_at "d") kt lt rfl rfl (sw_cell c.act kt rfl)
      (Ev.tup (.cons rfl (Ev.add Ev.nat (Ev.draw hgn (by wtm_at "d") hr1 rfl rfl (by wtm_at "lo") Ev.nat hk1 (by exact lin1 hn (by wtm_at "a")) (by decide))) (.cons rfl (Ev.draw hgn (by wtm_at "d") hr1 rfl rfl (by wtm_at "lo") Ev.nat hk1.next (by exact lin1 hn (by wtm_at "a")) (by decide)) .nil)) (nb rfl)) ?_
    have hk3 := hk1.next.next
    generalize W.next.next.next = W3 at hk3
    generalize W.next.next.draw 3 = tu at htu
    generalize W.next.draw 3 = m1 at hm1
    generalize hmy : 1 + m1 = many
    refine (show Bs c _ [oWell w d W3, oCell k (tN tu)] _ _ from ?_)
    refine Bs.comp (cl := [("turned", k)]) (n := many) (r := fun i => tB (worthL.getD ((i + tu) % 3) [])) (Lf := fun i => ⟨["place"], [tN i]⟩) (I := fun _ => [oWell w d W3, oCell k (tN tu)]) hnm (by wtm_at "ix") (by wtm_at "d") (sw_comp c.act (c.act.kloc _ (by rw [hnm]; decide)) rfl (by wtm_at "d")) (by intro _; rfl) (closureFor_eq (fun _ => k) (fun x hx hf => ?_)) rfl (by wtm_at "d") (by decide)
      (Itr.range hgn (by wtm_at "d") rfl (by wtm_at "lo") (by exact lin2 (b := 1099511627776) hm1 (Nat.le_of_eq hmy.symm) (by wtm_at "a"))) (by exact lin2 hm1 (Nat.le_of_eq hmy.symm) (by wtm_at "a")) (fun i _ => AsnC.one rfl (by kernel_rfl)) (fun i C oC m it o2 acc o3 hi hC => ?_) fun l hlf => ?_
    · simp only [List.mem_cons, List.not_mem_nil, or_false] at hx
      rcases hx with rfl | rfl | rfl | rfl
      · cases hf
      · cases hf
      · cases hf
      · exact lt
    · exact Ev.tupI (ts := worthL.map tB) (i := (i + tu) % 3) (Ev.lawWorths rfl rfl) (Ev.mod (Ev.add (Ev.cloc hC rfl (by kernel_rfl) rfl 0 .here rfl) (Ev.free (i := 4) rfl (by kernel_rfl) kt rfl rfl rfl)) Ev.nat (by decide)) (by
        rw [List.getElem?_map, List.getD_eq_getElem?_getD]
        have h3 : (i + tu) % 3 < 3 := Nat.mod_lt _ (by decide)
        obtain ⟨x, hx⟩ : ∃ x, worthL[(i + tu) % 3]? = some x := ⟨_, List.getElem?_eq_getElem (by exact h3)⟩
        rw [hx]; rfl) (nb rfl) (fun _ _ _ => ⟨_, rfl⟩)
    rw [show (List.range many).map (fun i => tB (worthL.getD ((i + tu) % 3) [])) = ((List.range many).map (fun i => worthL.getD ((i + tu) % 3) [])).map tB by rw [List.map_map]; rfl]
    refine Bs.frz hlf (i := 0) .here (by wtm_at "d") rfl ?_
    generalize hws : (List.range many).map (fun i => worthL.getD ((i + tu) % 3) []) = ws
    refine Bs.own (us := [tLs [tTup [tN L, tN 0]]]) hnm (by wtm_at "ix") (by wtm_at "d") rfl (.cons rfl (Ev.list (.cons rfl (Ev.tup (.cons rfl (by wtm_at "lo") (.cons rfl Ev.nat .nil)) (nb rfl)) .nil) (nb rfl)) .nil) (nb rfl) fun lo hlo => ?_
    refine Bs.swap ?_
    refine Bs.forL (σ := List Nat × Well) (I := fun i x => x.1.length = i ∧ (∀ c ∈ x.1, 1 ≤ c ∧ c < L) ∧ x.2.Ok (n + 3 + i)) (obs := fun i x => [oWell w d x.2, oLs lo ((cutRows L x.1).map tRow), oCell k (tN tu)]) (Lf := fun i => ⟨"number" :: _, tN (1 + i) :: _⟩) (n := many - 1) ([], W3) (by intro _; rfl)
      (Itr.range2 hgn (by wtm_at "d") rfl rfl Ev.nat (by wtm_at "lo") (by decide) (by exact lin2 (b := 1099511627776) hm1 (Nat.le_of_eq hmy.symm) (by wtm_at "a"))) ⟨rfl, by simp, hk3⟩ (fun i => Asn.name hnm (by wtm_at "ix") (by wtm_at "d")) (fun i x it ot hi hx => .inl ?_) ?_
    · obtain ⟨cs, W4⟩ := x
      obtain ⟨hcl, hcb, hk4⟩ := hx
      dsimp only at hcl hcb hk4
      have hq : W4.draw (L - 1) < L - 1 := Well.draw_lt _ (by exact lin2 hL6 (Nat.le_of_eq (Nat.sub_add_cancel (show 1 ≤ L from lin1 hL6 (by wtm_at "p"))).symm) (by wtm_at "p"))
      refine ⟨(cs ++ [1 + W4.draw (L - 1)], W4.next), ⟨by rw [List.length_append, hcl]; rfl, fun q hq' => ?_, hk4.next⟩, ?_⟩
      · rcases List.mem_append.mp hq' with hq' | hq'
        · exact hcb q hq'
        · rw [List.mem_singleton] at hq'; exact ⟨lin1 (Nat.le_of_eq hq'.symm) (by wtm_at "a"), lin3 hq (Nat.le_of_eq hq') (Nat.le_of_eq (Nat.sub_add_cancel (show 1 ≤ L from lin1 hL6 (by wtm_at "p")))) (by wtm_at "a")⟩
      refine Bs.set (t1 := tN (1 + W4.draw (L - 1))) hnm (by wtm_at "ix") (by wtm_at "d") rfl (Ev.add Ev.nat (Ev.draw hgn (by wtm_at "d") hr1 rfl rfl (by wtm_at "lo") (Ev.sub (by wtm_at "lo") Ev.nat (by exact lin1 hL6 (by wtm_at "p"))) hk4 (by exact lin5 hn hm1 (Nat.le_of_eq hmy.symm) hi (Nat.le_of_eq (Nat.sub_add_cancel (show 1 ≤ many from lin1 (Nat.le_of_eq hmy) (by wtm_at "a")))) (by wtm_at "a")) (by exact lin2 hL6 (Nat.le_of_eq (Nat.sub_add_cancel (show 1 ≤ L from lin1 hL6 (by wtm_at "p"))).symm) (by wtm_at "p")))) ?_
      refine Bs.append (i := 1) (us := (cutRows L cs).map tRow) (t := tRow (cutRow L (1 + W4.draw (L - 1), cs.length + 1))) rfl rfl rfl (by wtm_at "lo") rfl (Ev.list (.cons rfl (Ev.tup (.cons rfl (by wtm_at "lo") (.cons rfl Ev.nat .nil)) (nb rfl)) (.cons rfl (Ev.tup (.cons rfl (Ev.sub (by wtm_at "lo") (by wtm_at "lo") (show 1 + W4.draw (L - 1) ≤ L from Nat.le_trans (Nat.le_of_eq (Nat.add_comm 1 _)) (Nat.le_trans hq (Nat.sub_le L 1)))) (.cons rfl ((show Ev c.g _ _ _ (tN (1 + i)) _ by wtm_at "lo").cast (by rw [hcl, Nat.add_comm])) .nil)) (nb rfl)) .nil)) (nb rfl)) rfl (by rw [List.length_map, cutRows_len]; exact lin5 hm1 (Nat.le_of_eq hmy.symm) hi (Nat.le_of_eq hcl) (Nat.le_of_eq (Nat.sub_add_cancel (show 1 ≤ many from lin1 (Nat.le_of_eq hmy) (by wtm_at "a")))) (by wtm_at "a")) ?_
      rw [show (cutRows L cs).map tRow ++ [tRow (cutRow L (1 + W4.draw (L - 1), cs.length + 1))] = (cutRows L (cs ++ [1 + W4.draw (L - 1)])).map tRow by rw [cutRows_snoc, List.map_append]; rfl]
      exact Bs.drop 2
    rintro ⟨cs, W4⟩ ⟨hcl, hcb, hk4⟩
    dsimp only at hcl hcb hk4
    refine Bs.ifL (p := 1 < many ∧ (W4.draw 2 = 1 ∧ True)) (ob1 := [oWells w d (n + 6), oLs lo ((cutRows L cs).map tRow), oCell k (tN tu)]) (ob2 := [oWells w d (n + 6), oLs lo ((cutRows L cs ++ if (1 < many ∧ (W4.draw 2 = 1 ∧ True)) then [[(L, 1)]] else []).map tRow), oCell k (tN tu)])
      (Tq.and_ (Tq.gtN rfl (by wtm_at "lo") Ev.nat) (.well (hk4.mono (by exact lin3 hm1 (Nat.le_of_eq hmy.symm) (Nat.le_of_eq (Nat.sub_add_cancel (show 1 ≤ many from lin1 (Nat.le_of_eq hmy) (by wtm_at "a")))) (by wtm_at "a"))) .rfl') fun _ => Tq.and_ ((Tq.eqN rfl (Ev.draw hgn (by wtm_at "d") hr1 rfl rfl (by wtm_at "lo") Ev.nat hk4 (by exact lin4 hn hm1 (Nat.le_of_eq hmy.symm) (Nat.le_of_eq (Nat.sub_add_cancel (show 1 ≤ many from lin1 (Nat.le_of_eq hmy) (by wtm_at "a")))) (by wtm_at "a")) (by decide)) Ev.nat).weak (.well (hk4.next.mono (by exact lin3 hm1 (Nat.le_of_eq hmy.symm) (Nat.le_of_eq (Nat.sub_add_cancel (show 1 ≤ many from lin1 (Nat.le_of_eq hmy) (by wtm_at "a")))) (by wtm_at "a"))) .rfl')) .rfl' fun _ => Tq.and0) (fun hp => ?_) (fun hp => ?_) ?_
    · rw [if_pos hp]
      refine Bs.append (i := 1) (us := (cutRows L cs).map tRow) (t := tRow [(L, 1)]) rfl rfl rfl (by wtm_at "lo") rfl (Ev.list (.cons rfl (Ev.tup (.cons rfl (by wtm_at "lo") (.cons rfl Ev.nat .nil)) (nb rfl)) .nil) (nb rfl)) rfl (by rw [List.length_map, cutRows_len]; exact lin4 hm1 (Nat.le_of_eq hmy.symm) (Nat.le_of_eq hcl) (Nat.le_of_eq (Nat.sub_add_cancel (show 1 ≤ many from lin1 (Nat.le_of_eq hmy) (by wtm_at "a")))) (by wtm_at "a")) ?_
      rw [List.map_append]
      exact Bs.nil
    · rw [if_neg hp, List.append_nil]
      exact Bs.nil
    obtain ⟨ex, hex⟩ : ∃ ex : Bool, ex = decide (1 < many ∧ (W4.draw 2 = 1 ∧ True)) := ⟨_, rfl⟩
    have hexm : ex = true → 2 ≤ many := fun h => by rw [hex, decide_eq_true_eq] at h; exact h.1
    rw [show (if (1 < many ∧ (W4.draw 2 = 1 ∧ True)) then [[(L, 1)]] else ([] : List (List (Nat × Nat)))) = if ex = true then [[(L, 1)]] else [] by rw [hex]; simp only [decide_eq_true_eq]]
    clear hex hk4 hk3
    refine Bs.opn fun W5 hk5 => Bs.swap (Bs.frz hlo (i := 0) .here (by wtm_at "d") rfl ?_)
    generalize hlows : cutRows L cs ++ (if ex = true then [[(L, 1)]] else []) = lows
    have hll : lows.length = many + if ex = true then 1 else 0 := by
      rw [← hlows, List.length_append, cutRows_len, hcl]
      rw [Nat.sub_add_cancel (lin1 (Nat.le_of_eq hmy) (by wtm_at "a"))]
      cases ex <;> rfl
    have hl1 : 1 ≤ lows.length ∧ lows.length ≤ 4 := by
      have e1 : (if ex = true then 1 else 0) ≤ 1 := by cases ex <;> decide
      rw [hll]
      exact ⟨Nat.le_trans (lin1 (Nat.le_of_eq hmy) (by wtm_at "a")) (Nat.le_add_right _ _), Nat.add_le_add (show many ≤ 3 from lin2 hm1 (Nat.le_of_eq hmy.symm) (by wtm_at "a")) e1⟩
    refine Bs.own (us := [tLs [tTup [tN M, tN 0]]]) hnm (by wtm_at "ix") (by wtm_at "d") rfl (.cons rfl (Ev.list (.cons rfl (Ev.tup (.cons rfl (by wtm_at "lo") (.cons rfl Ev.nat .nil)) (nb rfl)) .nil) (nb rfl)) .nil) (nb rfl) fun mo hmo => ?_
    refine Bs.swap ?_
    refine Bs.forL (σ := List Nat × Well) (I := fun i x => x.1.length = i ∧ (∀ c ∈ x.1, 1 ≤ c ∧ c < M) ∧ x.2.Ok (n + 6 + i)) (obs := fun i x => [oWell w d x.2, oLs mo ((cutRows M x.1).map tRow), oCell k (tN tu)]) (Lf := fun i => ⟨"number" :: _, tN (1 + i) :: _⟩) (n := lows.length - 1) ([], W5) (by intro _; rfl)
      (Itr.range2 hgn (by wtm_at "d") rfl rfl Ev.nat ((Ev.len (us := lows.map tRow) hgn (by wtm_at "d") rfl (by wtm_at "lo") (by rw [List.length_map]; exact lin1 hl1.2 (by wtm_at "a"))).cast (by rw [List.length_map])) (by decide) (by exact lin1 (b := 1099511627776) hl1.2 (by wtm_at "a"))) ⟨rfl, by simp, hk5⟩ (fun i => Asn.name hnm (by wtm_at "ix") (by wtm_at "d")) (fun i x it ot hi hx => .inl ?_) ?_
    · obtain ⟨ds, W4⟩ := x
      obtain ⟨hdl, hdb, hk4⟩ := hx
      dsimp only at hdl hdb hk4
      have hq : W4.draw (M - 1) < M - 1 := Well.draw_lt _ (by exact lin2 hM4 (Nat.le_of_eq (Nat.sub_add_cancel (show 1 ≤ M from lin1 hM4 (by wtm_at "p"))).symm) (by wtm_at "p"))
      refine ⟨(ds ++ [1 + W4.draw (M - 1)], W4.next), ⟨by rw [List.length_append, hdl]; rfl, fun q hq' => ?_, hk4.next⟩, ?_⟩
      · rcases List.mem_append.mp hq' with hq' | hq'
        · exact hdb q hq'
        · rw [List.mem_singleton] at hq'; exact ⟨lin1 (Nat.le_of_eq hq'.symm) (by wtm_at "a"), lin3 hq (Nat.le_of_eq hq') (Nat.le_of_eq (Nat.sub_add_cancel (show 1 ≤ M from lin1 hM4 (by wtm_at "p")))) (by wtm_at "a")⟩
      refine Bs.set (t1 := tN (1 + W4.draw (M - 1))) hnm (by wtm_at "ix") (by wtm_at "d") rfl (Ev.add Ev.nat (Ev.draw hgn (by wtm_at "d") hr1 rfl rfl (by wtm_at "lo") (Ev.sub (by wtm_at "lo") Ev.nat (by exact lin1 hM4 (by wtm_at "p"))) hk4 (by exact lin4 hn hl1.2 hi (Nat.le_of_eq (Nat.sub_add_cancel (show 1 ≤ lows.length from lin2 (Nat.le_of_eq hmy) (Nat.le_of_eq hll.symm) (by wtm_at "a")))) (by wtm_at "a")) (by exact lin2 hM4 (Nat.le_of_eq (Nat.sub_add_cancel (show 1 ≤ M from lin1 hM4 (by wtm_at "p"))).symm) (by wtm_at "p")))) ?_
      refine Bs.append (i := 1) (us := (cutRows M ds).map tRow) (t := tRow (cutRow M (1 + W4.draw (M - 1), ds.length + 1))) rfl rfl rfl (by wtm_at "lo") rfl (Ev.list (.cons rfl (Ev.tup (.cons rfl (by wtm_at "lo") (.cons rfl Ev.nat .nil)) (nb rfl)) (.cons rfl (Ev.tup (.cons rfl (Ev.sub (by wtm_at "lo") (by wtm_at "lo") (show 1 + W4.draw (M - 1) ≤ M from Nat.le_trans (Nat.le_of_eq (Nat.add_comm 1 _)) (Nat.le_trans hq (Nat.sub_le M 1)))) (.cons rfl ((show Ev c.g _ _ _ (tN (1 + i)) _ by wtm_at "lo").cast (by rw [hdl, Nat.add_comm])) .nil)) (nb rfl)) .nil)) (nb rfl)) rfl (by rw [List.length_map, cutRows_len]; exact lin4 hl1.2 hi (Nat.le_of_eq hdl) (Nat.le_of_eq (Nat.sub_add_cancel (show 1 ≤ lows.length from lin2 (Nat.le_of_eq hmy) (Nat.le_of_eq hll.symm) (by wtm_at "a")))) (by wtm_at "a")) ?_
      rw [show (cutRows M ds).map tRow ++ [tRow (cutRow M (1 + W4.draw (M - 1), ds.length + 1))] = (cutRows M (ds ++ [1 + W4.draw (M - 1)])).map tRow by rw [cutRows_snoc, List.map_append]; rfl]
      exact Bs.drop 2
    rintro ⟨ds, W6⟩ ⟨hdl, hdb, hk6⟩
    dsimp only at hdl hdb hk6
    refine Bs.swap (Bs.frz hmo (i := 0) .here (by wtm_at "d") rfl ?_)
    have hml : (cutRows M ds).length = lows.length := by rw [cutRows_len]; exact Nat.le_antisymm (lin2 (Nat.le_of_eq hdl) (Nat.le_of_eq (Nat.sub_add_cancel (show 1 ≤ lows.length from lin2 (Nat.le_of_eq hmy) (Nat.le_of_eq hll.symm) (by wtm_at "a")))) (by wtm_at "a")) (lin2 (Nat.le_of_eq hdl.symm) (Nat.le_of_eq (Nat.sub_add_cancel (show 1 ≤ lows.length from lin2 (Nat.le_of_eq hmy) (Nat.le_of_eq hll.symm) (by wtm_at "a"))).symm) (by wtm_at "a"))
    generalize hmids : cutRows M ds = mids at hml
    obtain ⟨K', hK⟩ : ∃ K', mids.length = K' + 1 := ⟨mids.length - 1, by exact Nat.le_antisymm (lin1 (Nat.le_of_eq (Nat.sub_add_cancel (show 1 ≤ mids.length from lin3 (Nat.le_of_eq hmy) (Nat.le_of_eq hll.symm) (Nat.le_of_eq hml.symm) (by wtm_at "a"))).symm) (by wtm_at "a")) (lin1 (Nat.le_of_eq (Nat.sub_add_cancel (show 1 ≤ mids.length from lin3 (Nat.le_of_eq hmy) (Nat.le_of_eq hll.symm) (Nat.le_of_eq hml.symm) (by wtm_at "a")))) (by wtm_at "a"))⟩
    refine Bs.comp (cl := []) (n := mids.length) (r := fun i => tPair (1, i)) (Lf := fun i => ⟨["number"], [tN i]⟩) (I := fun _ => [oWell w d W6, oCell k (tN tu)]) hnm (by wtm_at "ix") (by wtm_at "d") (sw_comp c.act (c.act.kloc _ (by rw [hnm]; decide)) rfl (by wtm_at "d")) (by intro _; rfl) (closureFor_none (by decide)) rfl (by wtm_at "d") (by decide)
      (Itr.range hgn (by wtm_at "d") rfl ((Ev.len (us := mids.map tRow) hgn (by wtm_at "d") rfl (by wtm_at "lo") (by rw [List.length_map]; exact lin2 hl1.2 (Nat.le_of_eq hml) (by wtm_at "a"))).cast (by rw [List.length_map])) (by exact lin2 (b := 1099511627776) hl1.2 (Nat.le_of_eq hml) (by wtm_at "a"))) (by exact lin2 hl1.2 (Nat.le_of_eq hml) (by wtm_at "a")) (fun i _ => AsnC.one rfl (by kernel_rfl)) (fun i C oC m it o2 acc o3 hi hC => Ev.tup (.cons rfl Ev.nat (.cons rfl (Ev.cloc hC rfl (by kernel_rfl) rfl 0 .here rfl) .nil)) (nb rfl)) fun tp htp => ?_
    rw [show (List.range mids.length).map (fun i => tPair (1, i)) = (ones mids.length).map tPair by rw [ones, List.map_map]; rfl]
    have hNK : mids.length ≤ N := by exact lin3 hN17 hl1.2 (Nat.le_of_eq hml) (by wtm_at "a")
    refine Bs.swap ?_
    refine Bs.ifL (p := mids.length = 1 ∨ (W6.draw 2 = 0 ∨ False)) (ob1 := [oWells w d (n + 12), oLs tp ((ones mids.length).map tPair), oCell k (tN tu)]) (ob2 := [oWells w d (n + 12), oLs tp ((topRow N mids.length (decide (mids.length = 1 ∨ (W6.draw 2 = 0 ∨ False)))).map tPair), oCell k (tN tu)])
      (Tq.or_ (Tq.eqN rfl ((Ev.len (us := mids.map tRow) hgn (by wtm_at "d") rfl (by wtm_at "lo") (by rw [List.length_map]; exact lin2 hl1.2 (Nat.le_of_eq hml) (by wtm_at "a"))).cast (by rw [List.length_map])) Ev.nat) (.well (hk6.mono (by exact lin2 hl1.2 (Nat.le_of_eq (Nat.sub_add_cancel (show 1 ≤ lows.length from lin2 (Nat.le_of_eq hmy) (Nat.le_of_eq hll.symm) (by wtm_at "a")))) (by wtm_at "a"))) .rfl') fun _ => Tq.or_ ((Tq.eqN rfl (Ev.draw hgn (by wtm_at "d") hr1 rfl rfl (by wtm_at "lo") Ev.nat hk6 (by exact lin3 hn hl1.2 (Nat.le_of_eq (Nat.sub_add_cancel (show 1 ≤ lows.length from lin2 (Nat.le_of_eq hmy) (Nat.le_of_eq hll.symm) (by wtm_at "a")))) (by wtm_at "a")) (by decide)) Ev.nat).weak (.well (hk6.next.mono (by exact lin2 hl1.2 (Nat.le_of_eq (Nat.sub_add_cancel (show 1 ≤ lows.length from lin2 (Nat.le_of_eq hmy) (Nat.le_of_eq hll.symm) (by wtm_at "a")))) (by wtm_at "a"))) .rfl')) .rfl' fun _ => Tq.orN) (fun hp => ?_) (fun hp => ?_) ?_
    · rw [decide_eq_true hp, topRow, if_pos rfl, hK, ones_succ, List.map_append, List.map_append, Nat.add_sub_cancel, ← hK]
      refine Bs.setLast (i := 1) (us := (ones K').map tPair) (t := tPair (N - mids.length + 1, K')) rfl (Ev.tup (.cons rfl (Ev.add (Ev.sub (by wtm_at "lo") ((Ev.len (us := mids.map tRow) hgn (by wtm_at "d") rfl (by wtm_at "lo") (by rw [List.length_map]; exact lin2 hl1.2 (Nat.le_of_eq hml) (by wtm_at "a"))).cast (by rw [List.length_map])) hNK) Ev.nat) (.cons rfl ((Ev.sub ((Ev.len (us := mids.map tRow) hgn (by wtm_at "d") rfl (by wtm_at "lo") (by rw [List.length_map]; exact lin2 hl1.2 (Nat.le_of_eq hml) (by wtm_at "a"))).cast (by rw [List.length_map])) Ev.nat (by exact lin3 (Nat.le_of_eq hmy) (Nat.le_of_eq hll.symm) (Nat.le_of_eq hml.symm) (by wtm_at "a"))).cast (by rw [hK]; rfl)) .nil)) (nb rfl)) (by wtm_at "lo") rfl ?_
      exact Bs.nil
    · rw [decide_eq_false hp, topRow, if_neg Bool.false_ne_true, List.map_append]
      refine Bs.append (i := 1) (us := (ones mids.length).map tPair) (t := tPair (N - mids.length, 0)) rfl rfl rfl (by wtm_at "lo") rfl (Ev.tup (.cons rfl (Ev.sub (by wtm_at "lo") ((Ev.len (us := mids.map tRow) hgn (by wtm_at "d") rfl (by wtm_at "lo") (by rw [List.length_map]; exact lin2 hl1.2 (Nat.le_of_eq hml) (by wtm_at "a"))).cast (by rw [List.length_map])) hNK) (.cons rfl Ev.nat .nil)) (nb rfl)) rfl (by rw [List.length_map, ones, List.length_map, List.length_range]; exact lin2 hl1.2 (Nat.le_of_eq hml) (by wtm_at "a")) ?_
      exact Bs.nil
    have hlast : decide (mids.length = 1 ∨ (W6.draw 2 = 0 ∨ False)) = false → 2 ≤ mids.length := fun h => by
      rw [decide_eq_false_iff_not] at h; omega
    generalize decide (mids.length = 1 ∨ (W6.draw 2 = 0 ∨ False)) = last at hlast
    refine Bs.swap (Bs.frz htp (i := 0) .here (by wtm_at "d") rfl ?_)
    refine Bs.set (t1 := tB (encN lb ++ encN mb)) hnm (by wtm_at "ix") (by wtm_at "d") rfl (Ev.badd (Ev.number hgn (by wtm_at "d") hr1 rfl (Ev.tupI (ts := [tN lb, tN mb]) (by wtm_at "lo") Ev.nat rfl (nb rfl) (fun _ _ _ => ⟨_, rfl⟩)) (Nat.lt_of_le_of_lt hlb (by decide))) (Ev.number hgn (by wtm_at "d") hr1 rfl (Ev.tupI (ts := [tN lb, tN mb]) (by wtm_at "lo") Ev.nat rfl (nb rfl) (fun _ _ _ => ⟨_, rfl⟩)) (Nat.lt_of_le_of_lt hmb (by decide))) (by exact Nat.le_trans (Nat.add_le_add (encN_le lb (Nat.lt_of_le_of_lt hlb (by decide))) (encN_le mb (Nat.lt_of_le_of_lt hmb (by decide)))) (by decide))) ?_
    have ok : Shape.Ok ⟨lb, mb, many, tu, cs, ex, ds, last⟩ := ⟨hmem, by show 1 ≤ many; exact lin1 (Nat.le_of_eq hmy) (by wtm_at "a"), by show many ≤ 3; exact lin2 hm1 (Nat.le_of_eq hmy.symm) (by wtm_at "a"), htu, (by show cs.length + 1 = many; exact Nat.le_antisymm (lin2 (Nat.le_of_eq hcl) (Nat.le_of_eq (Nat.sub_add_cancel (show 1 ≤ many from lin1 (Nat.le_of_eq hmy) (by wtm_at "a")))) (by wtm_at "a")) (lin2 (Nat.le_of_eq hcl.symm) (Nat.le_of_eq (Nat.sub_add_cancel (show 1 ≤ many from lin1 (Nat.le_of_eq hmy) (by wtm_at "a"))).symm) (by wtm_at "a"))), (by rw [hLe]; exact hcb), hexm, (by show ds.length + 1 = (cutRows (2 ^ lb) cs ++ if ex = true then [[(2 ^ lb, 1)]] else []).length; rw [hLe, hlows]; exact Nat.le_antisymm (lin2 (Nat.le_of_eq hdl) (Nat.le_of_eq (Nat.sub_add_cancel (show 1 ≤ lows.length from lin2 (Nat.le_of_eq hmy) (Nat.le_of_eq hll.symm) (by wtm_at "a")))) (by wtm_at "a")) (lin2 (Nat.le_of_eq hdl.symm) (Nat.le_of_eq (Nat.sub_add_cancel (show 1 ≤ lows.length from lin2 (Nat.le_of_eq hmy) (Nat.le_of_eq hll.symm) (by wtm_at "a"))).symm) (by wtm_at "a"))), (by rw [hMe]; exact hdb), (by show last = false → 2 ≤ (cutRows (2 ^ mb) ds).length; rw [hMe, hmids]; exact hlast)⟩
    have hTb : Shape.tb ⟨lb, mb, many, tu, cs, ex, ds, last⟩ = ⟨(lb, mb), encN lb ++ encN mb, ws, lows, mids, topRow N mids.length last⟩ := by
      show Tb.mk (lb, mb) (encN lb ++ encN mb) _ (cutRows (2 ^ lb) cs ++ if ex = true then [[(2 ^ lb, 1)]] else []) (cutRows (2 ^ mb) ds) (topRow (1114112 / 2 ^ (lb + mb)) (cutRows (2 ^ mb) ds).length last) = _
      rw [hLe, hMe, hlows, hmids, hN, ← hws]; rfl
    refine Bs.ret (((Ev.tbDict (T := ⟨(lb, mb), encN lb ++ encN mb, ws, lows, mids, topRow N mids.length last⟩) (fun b => by wtm_at "lo") (fun b => by wtm_at "lo") (fun b => by wtm_at "lo") (fun b => by wtm_at "lo") (fun b => by wtm_at "lo") (fun b => by wtm_at "lo")).conv (t' := tEx Shape.Ok fun H => tTb w H.tb) fun Z v r => ⟨_, ok, (by show (tTb w _).r Z v; rw [hTb]; exact r)⟩).weak (.wells (by wtm_at "a") (.drop .nil)))
end
noncomputable def expand (ps : List (Nat × Nat)) : List Nat := ps.flatMap fun p => List.replicate p.1 p.2
theorem expand_take {ps : List (Nat × Nat)} {i : Nat} {p : Nat × Nat} (h : ps[i]? = some p) : expand (ps.take (i + 1)) = expand (ps.take i) ++ List.replicate p.1 p.2 := by
  unfold expand
  rw [List.take_add_one, h]; simp
theorem expand_len : ∀ (ps : List (Nat × Nat)), (expand ps).length = (ps.map (·.1)).sum
  | [] => rfl
  | p :: ps => by
    have := expand_len ps
    unfold expand at this ⊢
    simp only [List.flatMap_cons, List.length_append, List.length_replicate, List.map_cons, List.sum_cons, this]
theorem sum_take_le : ∀ (l : List Nat) (i : Nat), (l.take i).sum ≤ l.sum
  | [], i => by simp
  | x :: l, 0 => by simp
  | x :: l, i + 1 => by
    have := sum_take_le l i
    simp only [List.take_succ_cons, List.sum_cons]; exact lin1 this (by wtm_at "a")
theorem mv2 {α : Type} {a b c : α} {r : List α} : (c :: a :: b :: r).Perm (a :: b :: c :: r) := (List.Perm.swap ..).trans (List.Perm.cons _ (List.Perm.swap ..))
theorem mv3 {α : Type} {a b c d : α} {r : List α} : (d :: a :: b :: c :: r).Perm (a :: b :: c :: d :: r) := (List.Perm.swap ..).trans (List.Perm.cons _ mv2)
noncomputable def rdSum (o : List UInt8) : Except Str (List UInt8) :=
  if o.length < 8 ∨ o.take 4 ≠ mark then .error "no table" else if o.drop (o.length - 4) ≠ sumB (o.take (o.length - 4)) then .error "another sum" else .ok (o.take (o.length - 4))
noncomputable def ckBits (l m : Nat) : Except Str Unit := if l < 1 ∨ m < 1 ∨ l + m > 16 then .error "no such numbers of bits" else .ok ()
noncomputable def ordRuns : List (Nat × Nat) → Nat → Except Str Nat
  | [], n => .ok n
  | (_, k) :: r, n => if k > n then .error "numbers in another order" else ordRuns r (if k = n then n + 1 else n)
noncomputable def ordRows : List (List (Nat × Nat)) → Nat → Except Str Nat
  | [], n => .ok n
  | r :: rs, n => match ordRuns r n with
    | .error e => .error e
    | .ok n' => ordRows rs n'
noncomputable def ckOrder (rows : List (List (Nat × Nat))) (many : Nat) : Except Str Unit := match ordRows rows 0 with
  | .error e => .error e
  | .ok n => if n < many then .error "something that nothing names" else .ok ()
theorem shr8 (n : Nat) : n >>> 8 = n / 256 := by rw [Nat.shiftRight_eq_div_pow]
theorem and255 (n : Nat) : n &&& 255 = n % 256 := Nat.and_two_pow_sub_one_eq_mod n 8
structure Tab where
  lb : Nat
  mb : Nat
  vals : List (List UInt8)
  lows : List (List (Nat × Nat))
  mids : List (List (Nat × Nat))
  top : List (Nat × Nat)
noncomputable def ckAll (T : Tab) : Except Str Tab := match ckOrder [T.top] T.mids.length with
  | .error e => .error e
  | .ok _ => match ckOrder T.mids T.lows.length with
    | .error e => .error e
    | .ok _ => match ckOrder T.lows T.vals.length with
      | .error e => .error e
      | .ok _ => .ok T
noncomputable def rdTab3 (b : List UInt8) (lb mb : Nat) (vals : List (List UInt8)) (p : Nat) : Except Str Tab := match rdStage b (1 <<< lb) vals.length (1114112 >>> lb) p with
  | .error e => .error e
  | .ok (lows, p1) => match rdStage b (1 <<< mb) lows.length (1114112 >>> (lb + mb)) p1 with
    | .error e => .error e
    | .ok (mids, p2) => match rdRow b (1114112 >>> (lb + mb)) mids.length p2 with
      | .error e => .error e
      | .ok (top, p3) => if p3 < b.length then .error "octets are left" else ckAll ⟨lb, mb, vals, lows, mids, top⟩
noncomputable def rdTab2 (b : List UInt8) (lb mb p : Nat) : Except Str Tab := match ckBits lb mb with
  | .error e => .error e
  | .ok _ => match rdValues b p with
    | .error e => .error e
    | .ok (vals, p1) => rdTab3 b lb mb vals p1
noncomputable def rdTab (b : List UInt8) : Except Str Tab := match rdNum b 4 with
  | .error e => .error e
  | .ok (lb, p1) => match rdNum b p1 with
    | .error e => .error e
    | .ok (mb, p2) => rdTab2 b lb mb p2
noncomputable def rdTable (o : List UInt8) : Except Str Tab := match rdSum o with
  | .error e => .error e
  | .ok b => rdTab b
theorem ckBits_ok {l m : Nat} (h : ckBits l m = .ok ()) : 1 ≤ l ∧ 1 ≤ m ∧ l + m ≤ 16 := by
  unfold ckBits at h
  split at h
  · cases h
  · omega
theorem shl_le {l : Nat} (h : l ≤ 15) : 1 <<< l ≤ 1000000 := by
  rw [Nat.shiftLeft_eq, Nat.one_mul]
  exact Nat.le_trans (Nat.pow_le_pow_right (by decide) h) (by decide)
theorem shr_le {l : Nat} (h : 1 ≤ l) : 1114112 >>> l ≤ 1000000 := by
  rw [Nat.shiftRight_eq_div_pow]
  exact Nat.le_trans (Nat.div_le_div_left (c := 2) (by have := Nat.pow_le_pow_right (n := 2) (by decide) h; exact lin1 this (by wtm_at "p")) (by decide)) (by decide)
theorem rdSum_ok {o b : List UInt8} (h : rdSum o = .ok b) : b.length ≤ o.length ∧ 4 ≤ b.length := by
  unfold rdSum at h
  split at h
  · cases h
  · rename_i h1
    rw [not_or] at h1
    split at h
    · cases h
    · cases h; rw [List.length_take]; omega
noncomputable def Out.end_ (ob : List Ob) : Out := .fam (fun _ : Lc => True) id (fun _ => ob)
noncomputable def Out.x {α : Type} (r : Except Str α) (t : α → Ty) (ob : α → List Ob) : Out := match r with
  | .ok a => .ret (t a) (ob a)
  | .error w => .err w
noncomputable def Out.xe {α : Type} (r : Except Str α) (ob : α → List Ob) : Out := match r with
  | .ok a => .end_ (ob a)
  | .error w => .err w
theorem lookup_rev {l : List (Str × Value)} {x : Str} {v : Value} (nd : (l.map (·.1)).Nodup) (h : (x, v) ∈ l) : l.reverse.lookup x = some v := by
  induction l with
  | nil => cases h
  | cons p r ih =>
    rw [List.map_cons, List.nodup_cons] at nd
    rw [List.reverse_cons, List.lookup_append]
    rcases List.mem_cons.mp h with rfl | h
    · rw [List.lookup_eq_none_iff.mpr fun p hp => bne_iff_ne.mpr fun e => nd.1 (List.mem_map.mpr ⟨p, List.mem_reverse.mp hp, e.symm⟩)]
      show List.lookup x [(x, v)] = some v
      rw [List.lookup_cons, beq_self_eq_true]
    · rw [ih nd.2 h]; rfl
theorem lenE1 {us : List Value} (h : us.length = 1) : ∃ a, us = [a] := by
  obtain _ | ⟨a, us⟩ := us
  · cases h
  · cases us with
    | nil => exact ⟨a, rfl⟩
    | cons => cases h
theorem lenE2 {us : List Value} (h : us.length = 2) : ∃ a b, us = [a, b] := by
  obtain _ | ⟨a, us⟩ := us
  · cases h
  · obtain ⟨b, rfl⟩ := lenE1 (Nat.succ.inj h)
    exact ⟨a, b, rfl⟩
theorem lenE3 {us : List Value} (h : us.length = 3) : ∃ a b c, us = [a, b, c] := by
  obtain _ | ⟨a, us⟩ := us
  · cases h
  · obtain ⟨b, c, rfl⟩ := lenE2 (Nat.succ.inj h)
    exact ⟨a, b, c, rfl⟩
theorem lenE4 {us : List Value} (h : us.length = 4) : ∃ a b c d, us = [a, b, c, d] := by
  obtain _ | ⟨a, us⟩ := us
  · cases h
  · obtain ⟨b, c, d, rfl⟩ := lenE3 (Nat.succ.inj h)
    exact ⟨a, b, c, d, rfl⟩
theorem lenE5 {us : List Value} (h : us.length = 5) : ∃ a b c d e, us = [a, b, c, d, e] := by
  obtain _ | ⟨a, us⟩ := us
  · cases h
  · obtain ⟨b, c, d, e, rfl⟩ := lenE4 (Nat.succ.inj h)
    exact ⟨a, b, c, d, e, rfl⟩
theorem lenE6 {us : List Value} (h : us.length = 6) : ∃ a b c d e f, us = [a, b, c, d, e, f] := by
  obtain _ | ⟨a, us⟩ := us
  · cases h
  · obtain ⟨b, c, d, e, f, rfl⟩ := lenE5 (Nat.succ.inj h)
    exact ⟨a, b, c, d, e, f, rfl⟩
theorem lenE7 {us : List Value} (h : us.length = 7) : ∃ a b c d e f g, us = [a, b, c, d, e, f, g] := by
  obtain _ | ⟨a, us⟩ := us
  · cases h
  · obtain ⟨b, c, d, e, f, g, rfl⟩ := lenE6 (Nat.succ.inj h)
    exact ⟨a, b, c, d, e, f, g, rfl⟩
theorem zip_keys {names : List Str} {us : List Value} (h : us.length = names.length) : (names.zip us).map (·.1) = names := List.map_fst_zip (Nat.le_of_eq h.symm)
theorem scope_zip {fd : FuncData} {names nm gn : List Str} {us : List Value} (h : us.length = names.length) : scopeOk fd (names.zip us) nm gn = scopeOk fd (names.map fun x => (x, Value.none)) nm gn := by
  have e : ∀ f : Str → Bool, (names.zip us).all (fun x => f x.1) = (names.map fun x => ((x, Value.none) : Str × Value)).all (fun x => f x.1) := fun f => by
    rw [List.all_map, ← Function.comp_def f (fun x : Str × Value => x.1), ← List.all_map, zip_keys h]
    rfl
  unfold scopeOk
  rw [e (fun x => decide (fd.scope.names.lookup x = some .local)), e (fun x => nm.contains x)]
theorem scope_mem {fd : FuncData} {names nm gn : List Str} (sc : scopeOk fd (names.map fun x => (x, Value.none)) nm gn = true) {x : Str} (hx : x ∈ names) : x ∈ nm := by
  unfold scopeOk at sc
  rw [Bool.and_eq_true] at sc
  exact List.contains_iff_mem.mp (List.all_eq_true.mp sc.2 (x, Value.none) (List.mem_map.mpr ⟨x, hx, rfl⟩))
theorem Lc.Ok.args {names nm : List Str} {ts : List Ty} {us : List Value} {Z : Zt} (nd : names.Nodup) (hm : ∀ x ∈ names, x ∈ nm) (hl : ts.length = names.length) (T : TL Z ts us) : Lc.Ok ⟨names, ts⟩ (look nm) Z (nm.map (fun x => (names.zip us).reverse.lookup x)) := by
  intro i x t h1 h2
  obtain ⟨v, hv, r⟩ := T.get h2
  refine ⟨v, ?_, r⟩
  rw [look_vals, if_pos (hm x (List.mem_of_getElem? h1))]
  have h1 : names[i]? = some x := h1
  refine lookup_rev (by rw [zip_keys (T.length.trans hl)]; exact nd) (List.mem_of_getElem? (i := i) ?_)
  rw [List.getElem?_zip_eq_some]
  exact ⟨h1, hv⟩
theorem Obs.split {Z : Zt} {ob1 ob2 : List Ob} {mt : List (Addr × Obj)} (h : Obs Z (ob1 ++ ob2) mt) : ∃ m1 m2, mt = m1 ++ m2 ∧ Obs Z ob1 m1 ∧ Obs Z ob2 m2 := by
  induction ob1 generalizing mt with
  | nil => exact ⟨[], mt, rfl, .nil, h⟩
  | cons b bs ih =>
    cases h with | cons r h =>
    obtain ⟨m1, m2, rfl, h1, h2⟩ := ih h
    exact ⟨_ :: m1, m2, rfl, .cons r h1, h2⟩
theorem Obs.append {Z : Zt} {ob1 ob2 : List Ob} {m1 m2 : List (Addr × Obj)} (h1 : Obs Z ob1 m1) (h2 : Obs Z ob2 m2) : Obs Z (ob1 ++ ob2) (m1 ++ m2) := by
  induction h1 with
  | nil => exact h2
  | cons r _ ih => exact .cons r ih
theorem Obs.perm {Z : Zt} {ob ob' : List Ob} (h : ob.Perm ob') : ∀ {mt : List (Addr × Obj)}, Obs Z ob mt → ∃ mt', mt'.Perm mt ∧ Obs Z ob' mt' := by
  induction h with
  | nil => intro mt O; exact ⟨mt, .refl _, O⟩
  | cons b _ ih =>
    intro mt O
    cases O with | cons r O =>
    obtain ⟨mt', p, O'⟩ := ih O
    exact ⟨_, p.cons _, .cons r O'⟩
  | swap b1 b2 l =>
    intro mt O
    cases O with | cons r1 O => cases O with | cons r2 O =>
    exact ⟨_, List.Perm.swap .., .cons r2 (.cons r1 O)⟩
  | trans _ _ ih1 ih2 =>
    intro mt O
    obtain ⟨m1, p1, O1⟩ := ih1 O
    obtain ⟨m2, p2, O2⟩ := ih2 O1
    exact ⟨m2, p2.trans p1, O2⟩
noncomputable def OpX {w : World} {α : Type} (c : Cx w) (ts : List Ty) (f : List Value → Sem Value) (ob : List Ob) (r : Except Str α) (t : α → Ty) (ob' : α → List Ob) : Prop :=
  ∀ Z vs mt s us Q E, St c.G Z vs mt s → Obs Z ob mt → TL Z ts us → (∀ a, r = .ok a → Po c Z vs (t a) (ob' a) Q) → (∀ wd, r = .error wd → ∀ x s', Thr c.G vs wd (FlAt .none) x s' → E x s') → wpAny (model P w) c.A (f us) Q E s
section
variable {w : World} {c : Cx w} {L L' L1 : Lc} {ob ob0 ob1 ob2 ob' obf : List Ob} {t t' t0 t1 t2 t3 : Ty} {pos p' apos xp : Pos} {ns nm gn names : List Str} {ts us : List Ty} {e a1 e2 : PySem.Expr} {es : List PySem.Expr} {word name x : Str} {C f fI dx : Addr} {fs fs' : List (Str × Ty)} {i n m : Nat} {pl : Sem Bool} {α : Type} {r : Except Str α} {a : α} {g : List Value → Sem Value} {tr : α → Ty} {obr : α → List Ob}
variable {obj : Obj} {fd : FuncData} {body : List Stmt}
theorem OpX.ok (h : OpX c ts g ob r tr obr) (e : r = .ok a) : Op c ts g ob (tr a) (obr a) := fun Z vs mt s us Q E S O T q => h Z vs mt s us Q E S O T (fun b eb => by cases e.symm.trans eb; exact q) (fun wd ew => by cases e.symm.trans ew)
theorem OpX.er (h : OpX c ts g ob r tr obr) (e : r = .error word) : OpE c ts g ob word := fun Z vs mt s us Q E S O T q => h Z vs mt s us Q E S O T (fun b eb => by cases e.symm.trans eb) (fun wd ew x s' Th => by cases e.symm.trans ew; exact q x s' (Th.imp fun o tl f => f.any))
theorem OpX.def_ (nm gn names : List Str) (hr : Room c.A n) (hm : m + 1 ≤ n)
    (ho : (KK w).lookup f = some obj) (k1 : obj.data = .func fd) (k2 : fd.body = .stmts body) (k3 : codeIn (KK w) fd.code fd.qualname = true)
    (k4 : ∀ us : List Value, us.length = names.length → bindArgs fd ⟨us, []⟩ = pure (names.zip us)) (k5 : scopeOk fd (names.map fun x => (x, Value.none)) nm gn = true) (nd : names.Nodup) (hl : ts.length = names.length)
    (h : ∀ c' : Cb w, Room c'.A m → c'.G.nm = nm → c'.G.gn = gn → Bs c' ⟨names, ts⟩ obf body (Out.x r tr obr)) : OpX c ts (fun us => PySem.call (.ref f) us) (obf ++ ob) r tr (fun a => obr a ++ ob) := by
  intro Z vs mt s us Q E S O T hok her
  obtain ⟨m1, m2, rfl, O1, O2⟩ := O.split
  have hlen := T.length.trans hl
  refine wpAny_call ?_
  refine call_raise (fun wd => r = .error wd) c.act S hr.dep ho k1 k2 k3 (k4 us hlen) ((scope_zip hlen).trans k5) rfl (fun A' env' G' s' dA uA hG hnm hgn a' S' => ?_) (fun wd e s'' hw Th => her wd hw e s'' Th)
  refine h ⟨A', env', G', _, a'⟩ (hr.sub dA uA hm) hnm hgn Z _ m1 s' _ _ ⟨S', (by show Lc.Ok _ (look G'.nm) _ _; rw [hnm]; exact Lc.Ok.args nd (fun x hx => scope_mem k5 hx) hl T), O1⟩ ?_
  cases r with
  | ok a => exact fun v Z' vs' mt' s'' z S2 O3 r2 => Back.mk S2 fun S3 => hok a rfl v Z' (mt' ++ m2) s'' z S3 (O3.append (O2.up z)) r2
  | error wd => exact fun e vs' s' Th => ⟨wd, vs', rfl, Th⟩
theorem OpX.defE (nm gn names : List Str) (hr : Room c.A n) (hm : m + 1 ≤ n)
    (ho : (KK w).lookup f = some obj) (k1 : obj.data = .func fd) (k2 : fd.body = .stmts body) (k3 : codeIn (KK w) fd.code fd.qualname = true)
    (k4 : ∀ us : List Value, us.length = names.length → bindArgs fd ⟨us, []⟩ = pure (names.zip us)) (k5 : scopeOk fd (names.map fun x => (x, Value.none)) nm gn = true) (nd : names.Nodup) (hl : ts.length = names.length)
    (h : ∀ c' : Cb w, Room c'.A m → c'.G.nm = nm → c'.G.gn = gn → Bs c' ⟨names, ts⟩ obf body (Out.xe r obr)) : OpX c ts (fun us => PySem.call (.ref f) us) (obf ++ ob) r (fun _ => tNone) (fun a => obr a ++ ob) := by
  intro Z vs mt s us Q E S O T hok her
  obtain ⟨m1, m2, rfl, O1, O2⟩ := O.split
  have hlen := T.length.trans hl
  refine wpAny_call ?_
  refine call_raise (fun wd => r = .error wd) c.act S hr.dep ho k1 k2 k3 (k4 us hlen) ((scope_zip hlen).trans k5) rfl (fun A' env' G' s' dA uA hG hnm hgn a' S' => ?_) (fun wd e s'' hw Th => her wd hw e s'' Th)
  refine h ⟨A', env', G', _, a'⟩ (hr.sub dA uA hm) hnm hgn Z _ m1 s' _ _ ⟨S', (by show Lc.Ok _ (look G'.nm) _ _; rw [hnm]; exact Lc.Ok.args nd (fun x hx => scope_mem k5 hx) hl T), O1⟩ ?_
  cases r with
  | ok a => exact fun i _ Z' vs' mt' s'' z p => Back.mk p.S fun S3 => hok a rfl .none Z' (mt' ++ m2) s'' z S3 (p.o.append (O2.up z)) rfl
  | error wd => exact fun e vs' s' Th => ⟨wd, vs', rfl, Th⟩
theorem Op.def_ (nm gn names : List Str) (hr : Room c.A n) (hm : m + 1 ≤ n)
    (ho : (KK w).lookup f = some obj) (k1 : obj.data = .func fd) (k2 : fd.body = .stmts body) (k3 : codeIn (KK w) fd.code fd.qualname = true)
    (k4 : ∀ us : List Value, us.length = names.length → bindArgs fd ⟨us, []⟩ = pure (names.zip us)) (k5 : scopeOk fd (names.map fun x => (x, Value.none)) nm gn = true) (nd : names.Nodup) (hl : ts.length = names.length)
    (h : ∀ c' : Cb w, Room c'.A m → c'.G.nm = nm → c'.G.gn = gn → Bs c' ⟨names, ts⟩ obf body (.ret t ob')) : Op c ts (fun us => PySem.call (.ref f) us) (obf ++ ob) t (ob' ++ ob) :=
  (OpX.def_ (r := .ok ()) (tr := fun _ => t) (obr := fun _ => ob') nm gn names hr hm ho k1 k2 k3 k4 k5 nd hl h).ok rfl
theorem Op.newO {s0 : Str} (nm gn names : List Str) (ok : NewOk w C fI) (hr : Room c.A (n + 1)) (hm : m + 1 ≤ n)
    (ho : (KK w).lookup fI = some obj) (k1 : obj.data = .func fd) (k2 : fd.body = .stmts body) (k3 : codeIn (KK w) fd.code fd.qualname = true)
    (k4 : ∀ us : List Value, us.length = (s0 :: names).length → bindArgs fd ⟨us, []⟩ = pure ((s0 :: names).zip us)) (k5 : scopeOk fd ((s0 :: names).map fun x => (x, Value.none)) nm gn = true) (nd : (s0 :: names).Nodup) (hl : ts.length = names.length)
    (h : ∀ (c' : Cb w) dx, Room c'.A m → c'.G.nm = nm → c'.G.gn = gn → Bs c' ⟨s0 :: names, tOwn C dx :: ts⟩ [oD dx []] body (.end_ [oD dx fs]))
    {Z : Zt} {vs : List (Option Value)} {mt : List (Addr × Obj)} {s : Shared} {us : List Value} {Q E : Value → Shared → Prop} (S : St c.G Z vs mt s) (T : TL Z ts us)
    (q : ∀ x dx od Z' s', (∀ a o, Z a o → Z' a o) → dx ∉ c.G.ft → Z' x (instObj C dx) → (oD dx fs).r Z' od → St c.G Z' vs ((dx, od) :: mt) s' → Q (.ref x) s') : wpAny (model P w) c.A (PySem.call (.ref C) us) Q E s := by
  refine A_new ok c.act S hr fun A9 x dx od s1 a9 hr9 hD9 hfr S1 => ?_
  have T1 := T.up (Z' := fun b o => Z b o ∨ (b = x ∧ o = instObj C dx)) fun _ _ k => .inl k
  have hl' : (tOwn C dx :: ts).length = (s0 :: names).length := congrArg Nat.succ hl
  have TT : TL (fun b o => Z b o ∨ (b = x ∧ o = instObj C dx)) (tOwn C dx :: ts) (.ref x :: us) := .cons ⟨x, rfl, .inr ⟨rfl, rfl⟩⟩ T1
  have hlen := TT.length.trans hl'
  refine call_code (foot := [(dx, od)]) (rest := mt) (X := fun _ _ _ _ => False) a9 S1 hr9.dep ho k1 k2 k3 (BindsTo.of_eq (k4 _ hlen)) ((scope_zip hlen).trans k5) rfl (fun A' env' G' s' dA uA hG hnm hgn a' S' => ?_) (fun _ _ _ _ _ _ _ _ h => h.elim)
  refine h ⟨A', env', G', _, a'⟩ dx (hr9.sub dA uA hm) hnm hgn _ _ [(dx, od)] s' _ _ ⟨S', (by show Lc.Ok _ (look G'.nm) _ _; rw [hnm]; exact Lc.Ok.args nd (fun x hx => scope_mem k5 hx) hl' TT), .cons (b := oD dx []) ⟨[], hD9, .nil⟩ .nil⟩ ?_
  intro i _ Z' vs' mt' s'' z p
  obtain ⟨pS, pl, pO⟩ := p
  cases pO with | cons hod pO => cases pO with | nil =>
  exact Back.mk pS fun S3 => ⟨rfl, q x dx _ Z' s'' (fun _ _ k => z _ _ (.inl k)) hfr (z _ _ (.inr ⟨rfl, rfl⟩)) hod S3⟩
theorem Op.newI {s0 : Str} (nm gn names : List Str) (ok : NewOk w C fI) (hr : Room c.A (n + 1)) (hm : m + 1 ≤ n)
    (ho : (KK w).lookup fI = some obj) (k1 : obj.data = .func fd) (k2 : fd.body = .stmts body) (k3 : codeIn (KK w) fd.code fd.qualname = true)
    (k4 : ∀ us : List Value, us.length = (s0 :: names).length → bindArgs fd ⟨us, []⟩ = pure ((s0 :: names).zip us)) (k5 : scopeOk fd ((s0 :: names).map fun x => (x, Value.none)) nm gn = true) (nd : (s0 :: names).Nodup) (hl : ts.length = names.length)
    (h : ∀ (c' : Cb w) dx, Room c'.A m → c'.G.nm = nm → c'.G.gn = gn → Bs c' ⟨s0 :: names, tOwn C dx :: ts⟩ [oD dx []] body (.end_ [oD dx fs])) : Op c ts (fun us => PySem.call (.ref C) us) ob (tIn C fs) ob := fun Z vs mt s us Q E S O T q =>
  Op.newO nm gn names ok hr hm ho k1 k2 k3 k4 k5 nd hl h S T fun x dx od Z' s' z hfr hx hod S' => by
    obtain ⟨kvs, hD, hF⟩ := hod
    exact q _ _ mt s' (fun _ _ k => .inl (z _ _ k)) (S'.freeze hfr) (O.up fun _ _ k => .inl (z _ _ k)) ⟨x, dx, od, kvs, rfl, .inl hx, .inr ⟨rfl, rfl⟩, hD, hF.up fun _ _ k => .inl k⟩
theorem Er.cal {fv : Value}
    (hf : ∀ Z vs mt s Q E, St c.G Z vs mt s → Q fv s → wpAny (model P w) c.A (eval (.Name x xp) c.env) Q E s)
    (hw : ∀ Z vs mt s Q E, St c.G Z vs mt s → wpAny (model P w) c.A (spliced (backTo pos (starEach (e :: es) c.env))) (KDef c.G fun us s₁ => wpAny (model P w) c.A (call fv us) Q E s₁) E s → wpAny (model P w) c.A (callWith pos fv [] (backTo pos (starEach (e :: es) c.env)) []) Q E s)
    (h : EvL c L ob (e :: es) ts ob1) (ho : OpE c ts (fun us => PySem.call fv us) ob1 word) : Er c L ob (.Call (.Name x xp) (e :: es) [] pos) word := fun Z vs mt s Q E p q =>
  X_Name (hf Z vs mt s _ _ p.S (hw Z vs mt s _ _ p.S (h pos Z vs mt s _ _ p fun us Z1 mt1 s1 z1 S1 O1 T1 => KDef.mk S1 (ho Z1 vs mt1 s1 us _ _ S1 O1 T1 q))))
theorem Er.cdef {c : Cb w} (hgn : c.G.gn = gn) (hc : gn.contains x = true) (hx : nsIn (KK w) mainGlobals x = some (some (.ref f))) (hk : keepIn (KK w) (.ref f) = true)
    (he : starEach (e :: es) c.env = (false, eval e c.env) :: starEach es c.env) (hp : (backTo pos (starEach es c.env)).any (·.1) = false)
    (h : EvL c.g L ob (e :: es) ts ob1) (ho : OpE c.g ts (fun us => PySem.call (.ref f) us) ob1 word) : Er c.g L ob (.Call (.Name x xp) (e :: es) [] pos) word :=
  Er.cal (fun Z vs mt s Q E S q => R_glob c.act S hgn hc hx q) (fun Z vs mt s Q E S k => V_fn c.act S hk he hp k) h ho
theorem Er.ctypeA {c : Cb w} {T : String} (hgn : c.G.gn = gn) (hc : gn.contains x = true) (hx : nsIn (KK w) mainGlobals x = some none) (hb : bootBuiltins x = some (.type T)) (hn : x ≠ "__name__")
    (he : starEach [e] c.env = (false, eval e c.env) :: starEach [] c.env) (h : Er c.g L ob e word) : Er c.g L ob (.Call (.Name x xp) [e] [] pos) word := fun Z vs mt s Q E p q =>
  X_Name (R_blt c.act p.S hgn hc hx hb hn (V_ctype he rfl (V_items he (h Z vs mt s _ _ p q))))
theorem Ev.cval {c : Cb w} {j : Nat} (hi : Ix ns x j) (ht : ts[j]? = some (tVal (.ref f))) (hk : keepIn (KK w) (.ref f) = true)
    (he : starEach (e :: es) c.env = (false, eval e c.env) :: starEach es c.env) (hp : (backTo pos (starEach es c.env)).any (·.1) = false)
    (h : EvL c.g ⟨ns, ts⟩ ob (e :: es) us ob1) (ho : Op c.g us (fun us => PySem.call (.ref f) us) ob1 t ob') : Ev c.g ⟨ns, ts⟩ ob (.Call (.Name x xp) (e :: es) [] pos) t ob' := fun Z vs mt s Q E p q =>
  X_Name (Ev.loc j hi ht Z vs mt s _ _ p (by
    rintro v Z1 mt1 s1 z1 S1 O1 rfl
    exact V_fn c.act S1 hk he hp (h pos Z1 vs mt1 s1 _ _ ⟨S1, p.l.up z1, O1⟩ fun us Z2 mt2 s2 z2 S2 O2 T2 => KDef.mk S2 (ho Z2 vs mt2 s2 us _ _ S2 O2 T2 ((q.up z1).up z2)))))
end
section
variable {w : World} {c : Cb w} {L L' L1 : Lc} {ob ob0 ob1 ob2 ob' : List Ob} {t t' t0 t1 t2 t3 : Ty} {pos p' apos xp : Pos} {ns nm gn : List Str} {ts us : List Ty} {e e2 iter target : PySem.Expr} {es : List PySem.Expr} {body rest : List Stmt} {o : Out} {word name x : Str} {i : Nat}
theorem Ev.glob {v : Value} (hgn : c.G.gn = gn) (hc : gn.contains x = true) (hx : nsIn (KK w) mainGlobals x = some (some v)) : Ev c.g L ob (.Name x pos) (tVal v) ob := fun Z vs mt s Q E p q => R_glob c.act p.S hgn hc hx (q.at p.S p.o rfl)
theorem Ev.blt {v : Value} (hgn : c.G.gn = gn) (hc : gn.contains x = true) (hx : nsIn (KK w) mainGlobals x = some none) (hb : bootBuiltins x = some v) (hn : x ≠ "__name__") : Ev c.g L ob (.Name x pos) (tVal v) ob := fun Z vs mt s Q E p q => R_blt c.act p.S hgn hc hx hb hn (q.at p.S p.o rfl)
theorem Bs.end_ : Bs c L ob [] (.end_ ob) := fun Z vs mt s K E p q => X_nil (q L trivial Z vs mt s (fun _ _ k => k) p)
theorem Bs.raise {np cpos : Pos} {k : Nat} (hr : Room c.A 2) (hgn : c.G.gn = gn) (hc : gn.contains "BadTable" = true) : Bs c L ob (.Raise (some (.Call (.Name "BadTable" np) [.Constant (.str word) k p'] [] cpos)) none pos :: rest) (.err word) :=
  fun Z vs mt s K E p q => X_raise c.act p.S hr hgn hc fun e s' Th => q e vs s' Th
theorem Bs.forE (hs : ∀ x, foldedSetIterable iter c.env x = pure x) (h : Er c.g L ob iter word) : Bs c L ob (.For target iter body [] pos :: rest) (.err word) :=
  fun Z vs mt s K E p q => X_for c.act hs (h Z vs mt s _ _ p fun x s' Th => q x vs s' Th)
theorem Tq.yes {c : Cx w} {p : Prop} [Decidable p] (h : Tq c L ob e p ob1) (hp : p) : Tq c L ob e True ob1 := fun Z vs mt s Q E pr q => h Z vs mt s Q E pr fun Z' mt' s' z S O => (show decide True = decide p from (decide_eq_true hp).symm) ▸ q Z' mt' s' z S O
theorem Bs.skip (h1 : Tq c.g L ob e False ob1) (h2 : Bs c L ob1 rest o) : Bs c L ob (.If e body [] pos :: rest) o := by
  intro Z vs mt s K E p q
  refine X_if (h1 Z vs mt s _ _ p fun Z1 mt1 s1 z1 S1 O1 => ?_)
  rw [decide_eq_false id, if_neg Bool.false_ne_true]
  exact X_nil (Nx.next (h2 Z1 vs mt1 s1 K E ⟨S1, p.l.up z1, O1⟩ (q.up z1)))
theorem Bs.take {orelse : List Stmt} (ho : o.ex = true) (h1 : Tq c.g L ob e True ob1) (h2 : Bs c L ob1 body o) : Bs c L ob (.If e body orelse pos :: rest) o := by
  intro Z vs mt s K E p q
  refine X_if (h1 Z vs mt s _ _ p fun Z1 mt1 s1 z1 S1 O1 => ?_)
  rw [decide_eq_true trivial, if_pos rfl]
  exact h2 Z1 vs mt1 s1 _ _ ⟨S1, p.l.up z1, O1⟩ ((q.up z1).nx ho)
theorem turn_pre {σ : Type} {I : σ → Prop} {nx : σ → Out} {oo : Out} {body' : List Stmt} (pre : ∀ o1, Bs c L' ob' rest o1 → Bs c L ob body' o1) (h : (∃ y, I y ∧ Bs c L' ob' rest (nx y)) ∨ (o.ex = true ∧ Bs c L' ob' rest oo)) :
    (∃ y, I y ∧ Bs c L ob body' (nx y)) ∨ (o.ex = true ∧ Bs c L ob body' oo) := by
  rcases h with ⟨y, hy, h⟩ | ⟨he, h⟩
  · exact .inl ⟨y, hy, pre _ h⟩
  · exact .inr ⟨he, pre _ h⟩
theorem Bs.perm (h : ob.Perm ob1) (k : Bs c L ob1 body o) : Bs c L ob body o := fun Z vs mt s K E p q => by
  obtain ⟨mt', pm, O⟩ := Obs.perm h p.o
  exact k Z vs mt' s K E ⟨p.S.perm pm, p.l, O⟩ q
end
section
variable {w : World} {c : Cx w} {L L' L1 : Lc} {ob ob0 ob1 ob2 ob' obf : List Ob} {t t' t0 t1 t2 t3 : Ty} {pos p' apos xp p1 p2 lp : Pos} {ns nm gn names : List Str} {ts us us0 : List Ty} {e a1 e2 l r : PySem.Expr} {es : List PySem.Expr} {word name x : Str} {C f fI dx d la : Addr} {fs fs' : List (Str × Ty)} {i n m k : Nat}
theorem Room.un2 {A : Around} (h : Room A 1) : A.units + 2 < cLine := lin1 h.2 (by wtm_at "a")
theorem TL.rep {Z : Zt} {v : Value} (r : t.r Z v) (n : Nat) : TL Z (List.replicate n t) (List.replicate n v) := by
  induction n with
  | zero => exact .nil
  | succ n ih => exact .cons r ih
theorem Ev.band (h1 : Ev c L ob l (tN m) ob1) (h2 : Ev c L ob1 r (tN n) ob2) : Ev c L ob (.BinOp l .BitAnd r pos) (tN (m &&& n)) ob2 := by
  refine Ev.bin h1 h2 ?_
  rintro Z vs mt s a b Q E S O ⟨ta, rfl⟩ ⟨tb, rfl⟩ q
  exact R_and S fun tk s' S' => q.at S' O ⟨tk, rfl⟩
theorem Ev.bor (h1 : Ev c L ob l (tN m) ob1) (h2 : Ev c L ob1 r (tN n) ob2) : Ev c L ob (.BinOp l .BitOr r pos) (tN (m ||| n)) ob2 := by
  refine Ev.bin h1 h2 ?_
  rintro Z vs mt s a b Q E S O ⟨ta, rfl⟩ ⟨tb, rfl⟩ q
  exact R_or S fun tk s' S' => q.at S' O ⟨tk, rfl⟩
theorem Ev.shl (h1 : Ev c L ob l (tN m) ob1) (h2 : Ev c L ob1 r (tN n) ob2) (hn : n ≤ 1000) (hm : m < 2 ^ 60) : Ev c L ob (.BinOp l .LShift r pos) (tN (m <<< n)) ob2 := by
  refine Ev.bin h1 h2 ?_
  rintro Z vs mt s a b Q E S O ⟨ta, rfl⟩ ⟨tb, rfl⟩ q
  exact R_shl S hn hm fun tk s' S' => q.at S' O ⟨tk, rfl⟩
theorem Ev.shr (h1 : Ev c L ob l (tN m) ob1) (h2 : Ev c L ob1 r (tN n) ob2) : Ev c L ob (.BinOp l .RShift r pos) (tN (m >>> n)) ob2 := by
  refine Ev.bin h1 h2 ?_
  rintro Z vs mt s a b Q E S O ⟨ta, rfl⟩ ⟨tb, rfl⟩ q
  exact R_shr S fun tk s' S' => q.at S' O ⟨tk, rfl⟩
theorem Tq.geN (hm : behindInMarks .GtE r = false) (h1 : Ev c L ob l (tN m) ob1) (h2 : Ev c L ob1 r (tN n) ob2) : Tq c L ob (.Compare l [.GtE] [r] pos) (n ≤ m) ob2 := by
  refine Tq.cmp hm h1 h2 ?_
  rintro Z vs mt s a b Q E S O ⟨ta, rfl⟩ ⟨tb, rfl⟩ q
  refine ge_int ?_
  rw [show decide ((m : Int) ≥ (n : Int)) = decide (n ≤ m) by simp]
  exact q
theorem Ev.rep (h1 : Ev c L ob l (tLs [t]) ob1) (h2 : Ev c L ob1 r (tN n) ob2) (hn : n ≤ 16777216) : Ev c L ob (.BinOp l .Mult r pos) (tLs (List.replicate n t)) ob2 := by
  refine Ev.bin h1 h2 ?_
  rintro Z vs mt s a b Q E S O ⟨la, xs, c1, rfl, z1, T1⟩ ⟨tb, rfl⟩ q
  cases T1 with | cons r1 T1 => cases T1 with | nil =>
  exact R_rep c.act S (S.z _ _ z1) hn fun l' s' S' f => q _ _ _ _ (fun _ _ z => .inl z) (S'.freeze f.2) (O.up fun _ _ z => .inl z) ⟨l', _, _, rfl, .inr ⟨rfl, rfl⟩, TL.rep (t.m (fun _ _ z => .inl z) r1) n⟩
theorem Op.tupleL (hz : ts.length ≤ 16000000) : Op c [tLs ts] (fun us => PySem.call (.type "tuple") us) ob (tTup ts) ob := by
  rintro Z vs mt s us Q E S O (_ | ⟨⟨d, xs, n, rfl, z, T⟩, (_ | _)⟩) q
  exact R_tuple c.act S (S.isListZ z) (by rw [sizeLine_eq, T.length]; exact Nat.le_trans hz (by decide)) fun l s' S' f =>
    q _ _ _ _ (fun _ _ z => .inl z) (S'.freeze f.2) (O.up fun _ _ z => .inl z) ⟨l, _, _, rfl, .inr ⟨rfl, rfl⟩, T.up fun _ _ z => .inl z⟩
theorem Ev.lastO (hs : ∀ d tk, ∃ ops, subscripted (.UnaryOp .USub (.Constant (.int 1) k p1) p2) false (.ref d) (.int (-1) tk) = operate ops (getItem (.ref d) (.int (-1) tk)))
    (h1 : Ev c L ob e (tRef la) ob1) (hb : ob1[i]? = some (oLs la (us0 ++ [t]))) : Ev c L ob (.Subscript e (.UnaryOp .USub (.Constant (.int 1) k p1) p2) pos) t ob1 := by
  intro Z vs mt s Q E p q
  refine V_sub (h1 Z vs mt s _ _ p ?_)
  rintro v Z1 mt1 s1 z1 S1 O1 rfl
  refine wpAny_UnaryOp (R_int S1 fun tk s2 S2 => R_neg S2 fun tk2 s3 S3 => ?_)
  obtain ⟨o, ⟨xs, n, rfl, T⟩, hm, _⟩ := O1.pick hb
  obtain ⟨ys, y, rfl, T2, r2⟩ := T.unsnoc
  obtain ⟨ops, he⟩ := hs la tk2
  exact T_list1 he (S3.isList hm) ((q.up z1).at S3 O1 r2)
theorem Tq.neNil (hu : Room c.A 1) (hm : behindInMarks .NotEq (.List [] lp) = false) (h1 : Ev c L ob e (tRef la) ob1) (hb : ob1[i]? = some (oLs la us)) : Tq c L ob (.Compare e [.NotEq] [.List [] lp] pos) (us ≠ []) ob1 := by
  intro Z vs mt s Q E p q
  refine V_tcmp hm (h1 Z vs mt s _ _ p ?_)
  rintro v Z1 mt1 s1 z1 S1 O1 rfl
  refine List_ (wpAny_items_nil (R_newList c.act S1 (Nat.zero_le _) fun l2 s2 S2 f2 => ?_))
  obtain ⟨o, ⟨xs, n, rfl, T⟩, hm, _⟩ := O1.pick hb
  refine R_ne_nil (S2.isList (.there hm)) (S2.isList .here) hu.un (wpAny_truthy_bool ?_)
  have e : (!xs.isEmpty) = decide (us ≠ []) := by
    cases T with
    | nil => rfl
    | cons => rfl
  rw [e]
  exact q Z1 mt1 s2 z1 (S2.sub (.cons _ (.refl _))) O1
noncomputable def oRk (w : World) (d : Addr) (rs : List (List (Nat × Nat))) : Ob := ⟨d, fun Z o => RowKeys w Z rs o, fun k h => RowKeys.mono k h⟩
noncomputable def oBk (w : World) (d : Addr) (rs : List (List UInt8)) : Ob := ⟨d, fun _ o => BytesKeys w rs o, fun _ h => h⟩
theorem Tq.cmpS {op : CmpOp} {p : Prop} [Decidable p] (hm : behindInMarks op r = false) (h1 : Ev c L ob l t1 ob1) (h2 : Ev c L ob1 r t2 ob2)
    (h3 : ∀ Z vs mt s a b Q E, St c.G Z vs mt s → Obs Z ob2 mt → t1.r Z a → t2.r Z b → (∀ s', St c.G Z vs mt s' → Q (.bool (decide p)) s') → wpAny (model P w) c.A (compareOp op a b) Q E s) : Tq c L ob (.Compare l [op] [r] pos) p ob2 := fun Z vs mt s Q E p' q =>
  V_tcmp hm (h1 Z vs mt s _ _ p' fun a Z1 mt1 s1 z1 S1 O1 r1 => h2 Z1 vs mt1 s1 _ _ ⟨S1, p'.l.up z1, O1⟩ fun b Z2 mt2 s2 z2 S2 O2 r2 =>
    h3 Z2 vs mt2 s2 a b _ _ S2 O2 (t1.m z2 r1) r2 fun s3 S3 => wpAny_truthy_bool (q Z2 mt2 s3 (fun _ _ z => z2 _ _ (z1 _ _ z)) S3 O2))
theorem Tq.inRow {ps : List (Nat × Nat)} {rs : List (List (Nat × Nat))} (hm : behindInMarks .In e2 = false) (hu : Room c.A 1) (h1 : Ev c L ob e (tTup (ps.map tPair)) ob1) (h2 : Ev c L ob1 e2 (tRef d) ob2) (hb : ob2[i]? = some (oRk w d rs)) (hs : (d == sysModules) = false) : Tq c L ob (.Compare e [.In] [e2] pos) (ps ∈ rs) ob2 := by
  refine Tq.cmpS hm h1 h2 ?_
  rintro Z vs mt s a b Q E S O ⟨k, xs, n, rfl, zk, T⟩ rfl q
  obtain ⟨o, hK, hmm, _⟩ := O.pick hb
  exact R_inRow S (S.has hmm) hK hs (S.z _ _ zk) ((TL.all2.mp T).mono fun _ _ => tPair_iff.mp) hu.un2 q
theorem Tq.inBytes {b : List UInt8} {rs : List (List UInt8)} (hm : behindInMarks .In e2 = false) (h1 : Ev c L ob e (tB b) ob1) (h2 : Ev c L ob1 e2 (tRef d) ob2) (hb : ob2[i]? = some (oBk w d rs)) (hs : (d == sysModules) = false) : Tq c L ob (.Compare e [.In] [e2] pos) (b ∈ rs) ob2 := by
  refine Tq.cmpS hm h1 h2 ?_
  rintro Z vs mt s a b' Q E S O ⟨tk, rfl⟩ rfl q
  obtain ⟨o, hK, hmm, _⟩ := O.pick hb
  exact R_inBytes S (S.has hmm) hK hs q
end
section
variable {w : World} {c : Cb w} {L L' L1 : Lc} {ob ob0 ob1 ob2 ob' : List Ob} {t t' t0 t1 t2 t3 : Ty} {pos p' apos xp dp lp : Pos} {ns nm gn : List Str} {ts us us0 : List Ty} {e e0 e2 v iter target : PySem.Expr} {es : List PySem.Expr} {body rest : List Stmt} {o : Out} {word name x : Str} {i j : Nat} {d dx C la : Addr} {fs fs' : List (Str × Ty)}
theorem Bs.dict (b : Addr → Ob) (hd : ∀ d, (b d).d = d) (hb : ∀ d Z, (b d).r Z emptyDict) (hnm : c.G.nm = nm) (hj : Ix nm x j) (hn : ns.contains x = false) (hs : swapsWith (.Dict [] [] dp) (some (.Name x xp)) pos.line c.env = pure false)
    (h2 : ∀ d, (d == sysModules) = false → Bs c ⟨x :: ns, tRef d :: ts⟩ (b d :: ob) rest o) : Bs c ⟨ns, ts⟩ ob (.Assign [.Name x xp] (.Dict [] [] dp) pos :: rest) o := by
  intro Z vs mt s K E p q
  have nd := c.act.nd
  refine X_assign c.act hnm hs (R_dict c.act p.S fun d s2 S2 f hsys => ?_)
  rw [hnm] at nd
  have hl : vs.length = nm.length := hnm ▸ p.S.len
  refine KSet.mk S2 (hj.put hl) fun s3 S3 => h2 d hsys Z _ _ s3 K E ⟨S3, ?_, (by have h := Obs.cons (hb d Z) p.o; rw [hd d] at h; exact h)⟩ q
  have hL : Lc.Ok ⟨ns, ts⟩ (look c.G.nm) Z vs := p.l
  show Lc.Ok _ (look c.G.nm) _ _
  rw [hnm] at hL ⊢
  exact hL.put nd hl hj hn rfl
theorem Bs.setRow {ps : List (Nat × Nat)} {rs : List (List (Nat × Nat))} (hu : Room c.A 1) (hs : swapsWith v (some (.Subscript e0 e p')) pos.line c.env = pure false) (h1 : Ev c.g L ob v t ob0) (h2 : Ev c.g L ob0 e0 (tRef d) ob1) (h3 : Ev c.g L ob1 e (tTup (ps.map tPair)) ob2)
    (hb : ob2[i]? = some (oRk w d rs)) (hz : rs.length ≤ 16000000) (hn : ps ∉ rs) (h4 : Bs c L (ob2.set i (oRk w d (rs ++ [ps]))) rest o) : Bs c L ob (.Assign [.Subscript e0 e p'] v pos :: rest) o := by
  intro Z vs mt s K E p q
  refine X_asub hs (h1 Z vs mt s _ _ p fun u Z1 mt1 s1 z1 S1 O1 r1 => h2 Z1 vs mt1 s1 _ _ ⟨S1, p.l.up z1, O1⟩ ?_)
  rintro ov Z2 mt2 s2 z2 S2 O2 rfl
  refine h3 Z2 vs mt2 s2 _ _ ⟨S2, (p.l.up z1).up z2, O2⟩ ?_
  rintro kv Z3 mt3 s3 z3 S3 O3 ⟨k, xs, n, rfl, zk, T⟩
  obtain ⟨o3, hK, hm, hg, hO⟩ := O3.pick hb
  exact R_setRow S3 hg hK (by rw [sizeLine_eq]; exact Nat.le_trans hz (by decide)) zk ((TL.all2.mp T).mono fun _ _ => tPair_iff.mp) hn hu.un2 fun o' s4 hK4 S4 =>
    h4 Z3 vs _ s4 K E ⟨S4, ((p.l.up z1).up z2).up z3, hO (oRk w d (rs ++ [ps])) o' rfl hK4⟩ (((q.up z1).up z2).up z3)
theorem Bs.setBytes {b : List UInt8} {rs : List (List UInt8)} (hs : swapsWith v (some (.Subscript e0 e p')) pos.line c.env = pure false) (h1 : Ev c.g L ob v t ob0) (h2 : Ev c.g L ob0 e0 (tRef d) ob1) (h3 : Ev c.g L ob1 e (tB b) ob2)
    (hb : ob2[i]? = some (oBk w d rs)) (hz : rs.length ≤ 16000000) (hn : b ∉ rs) (h4 : Bs c L (ob2.set i (oBk w d (rs ++ [b]))) rest o) : Bs c L ob (.Assign [.Subscript e0 e p'] v pos :: rest) o := by
  intro Z vs mt s K E p q
  refine X_asub hs (h1 Z vs mt s _ _ p fun u Z1 mt1 s1 z1 S1 O1 r1 => h2 Z1 vs mt1 s1 _ _ ⟨S1, p.l.up z1, O1⟩ ?_)
  rintro ov Z2 mt2 s2 z2 S2 O2 rfl
  refine h3 Z2 vs mt2 s2 _ _ ⟨S2, (p.l.up z1).up z2, O2⟩ ?_
  rintro kv Z3 mt3 s3 z3 S3 O3 ⟨tk, rfl⟩
  obtain ⟨o3, hK, hm, hg, hO⟩ := O3.pick hb
  exact R_setBytes S3 hg hK (by rw [sizeLine_eq]; exact Nat.le_trans hz (by decide)) hn fun o' s4 hK4 S4 =>
    h4 Z3 vs _ s4 K E ⟨S4, ((p.l.up z1).up z2).up z3, hO (oBk w d (rs ++ [b])) o' rfl hK4⟩ (((q.up z1).up z2).up z3)
theorem Bs.extendL {pl : Sem Bool} (hs : swapsWith (.Call (.Attribute e0 "extend" apos) [e] [] p') none pos.line c.env = pure false)
    (he : eval (.Call (.Attribute e0 "extend" apos) [e] [] p') c.env = (do let ov ← eval e0 c.env; standAt apos.atName; let (f, first) ← holding [ov] (getMethod ov "extend" pl); callWith p' f first (backTo p' (starEach [e] c.env)) (backToKw p' (keywordEach [] c.env))))
    (hx : starEach [e] c.env = (false, eval e c.env) :: starEach [] c.env) (h1 : Ev c.g L ob e0 (tRef la) ob0) (hb : ob0[i]? = some (oLs la us0)) (h2 : Ev c.g L ob0 e (tLs ts) ob1) (hb1 : ob1[j]? = some (oLs la us)) (hz : us.length + ts.length ≤ 16000000) (h3 : Bs c L (ob1.set j (oLs la (us ++ ts))) rest o) :
    Bs c L ob (.Expr (.Call (.Attribute e0 "extend" apos) [e] [] p') pos :: rest) o := by
  intro Z vs mt s K E p q
  refine X_expr c.act hs (V_mcall he (h1 Z vs mt s _ _ p ?_))
  rintro v Z1 mt1 s1 z1 S1 O1 rfl
  obtain ⟨o1, ⟨xs, n, rfl, T1⟩, hm, _⟩ := O1.pick hb
  refine G_extend (S1.has hm) (V_cmeth hx rfl (EvL.cons hx h2 .nil _ Z1 vs mt1 s1 _ _ ⟨S1, p.l.up z1, O1⟩ ?_))
  rintro vs2 Z2 mt2 s2 z2 S2 O2 (_ | ⟨⟨lb, ys, n2, rfl, zb, Tb⟩, (_ | _)⟩)
  obtain ⟨o2, ⟨xs, n, rfl, T2⟩, hm, hg, hO⟩ := O2.pick hb1
  refine R_extend S2 (fun n' => hg _) (S2.z _ _ zb) (by rw [sizeLine_eq, T2.length, Tb.length]; exact Nat.le_trans hz (by decide)) fun n' s3 S3 => ⟨rfl, h3 Z2 vs _ s3 K E ⟨S3, (p.l.up z1).up z2, ?_⟩ ((q.up z1).up z2)⟩
  exact hO (oLs la (us ++ ts)) _ rfl ⟨_, _, rfl, T2.append Tb⟩
theorem Bs.attL (hs : swapsWith (.List es lp) (some (.Attribute e name p')) pos.line c.env = pure false) (ok : AttrOk w C name) (h1 : EvL c.g L ob es us ob1) (hz : us.length ≤ 16000000) (h2 : ∀ l, Ev c.g L (oLs l us :: ob1) e (tOwn C dx) (oLs l us :: ob1)) (hi : ob1[i]? = some (oD dx fs))
    (f : ∀ l, Fs fs name (tRef l) (fs' ++ [(name, tRef l)])) (hf : fs.length ≤ 1000) (h3 : ∀ l, l ∉ c.G.ft → Bs c L (oLs l us :: ob1.set i (oD dx (fs' ++ [(name, tRef l)]))) rest o) : Bs c L ob (.Assign [.Attribute e name p'] (.List es lp) pos :: rest) o := by
  intro Z vs mt s K E p q
  refine X_aattr hs (List_ (h1 _ Z vs mt s _ _ p fun us1 Z1 mt1 s1 z1 S1 O1 T1 => R_newList c.act S1 (by rw [sizeLine_eq, T1.length]; exact Nat.le_trans hz (by decide)) fun l s2 S2 fr => ?_))
  refine h2 l Z1 vs _ s2 _ _ ⟨S2, p.l.up z1, .cons (b := oLs l us) ⟨_, _, rfl, T1⟩ O1⟩ ?_
  rintro ov Z3 mt3 s3 z3 S3 O3 ⟨x, rfl, hx⟩
  obtain ⟨od, ⟨kvs, hD, hF⟩, hm, hg, hO⟩ := O3.pick (i := i + 1) (b := oD dx fs) hi
  refine A_set ok c.act S3 hx hg hD (by rw [hF.length]; exact hf) rfl fun o' s4 hD4 S4 => h3 l fr.2 Z3 vs _ s4 K E ⟨S4, (p.l.up z1).up z3, ?_⟩ ((q.up z1).up z3)
  exact hO (oD dx (fs' ++ [(name, tRef l)])) o' rfl ⟨_, hD4, (f l).put rfl hF⟩
theorem Fs.re {t : Ty} {fs fs' : List (Str × Ty)} {x : Str} (f : Fs fs x t fs') {Z : Zt} {v : Value} (r : t.r Z v) : ∀ {kvs : List (Str × Value)}, TF Z fs kvs → lk kvs x = some v → TF Z fs' kvs := by
  induction f with
  | nil => rintro kvs (_ | _) h; cases h
  | here =>
    rintro kvs (_ | ⟨_, h⟩) e
    rw [lk, if_pos rfl] at e
    cases e
    exact .cons r h
  | there hn _ ih =>
    rintro kvs (_ | ⟨r', h⟩) e
    rw [lk, if_neg (by simpa using hn)] at e
    exact .cons r' (ih r h e)
theorem Bs.frzD (hf : la ∉ c.G.ft) (g : Fl fs name (tRef la)) (st : Fs fs name (tLs us) fs') (h : Bs c L (oD dx fs' :: ob) body o) : Bs c L (oLs la us :: oD dx fs :: ob) body o := by
  intro Z vs mt s K E p q
  obtain ⟨S, hL, O⟩ := p
  cases O with | cons h1 O => cases O with | cons h2 O =>
  obtain ⟨xs, n, rfl, T⟩ := h1
  obtain ⟨kvs, hD, hF⟩ := h2
  obtain ⟨v, hv, r⟩ := g.get hF
  cases r
  refine h _ vs _ s K E ⟨S.freeze hf, hL.up fun _ _ k => .inl k, .cons (b := oD dx fs') ⟨kvs, hD, ?_⟩ (O.up fun _ _ k => .inl k)⟩ (q.up fun _ _ k => .inl k)
  exact st.re ⟨la, xs, n, rfl, .inr ⟨rfl, rfl⟩, T.up fun _ _ k => .inl k⟩ (hF.up fun _ _ k => .inl k) hv
end
local macro_rules | `(tactic| wtm_at "fn") => `(tactic| ((case ho => (show List.lookup _ (Mine.hd.heap_1 _) = _; k_is)); (case k1 => exact rfl); (case k2 => exact rfl); (case k3 => kernel_rfl); (case k4 => (intro us h; first | (obtain ⟨a, q⟩ := lenE1 h; subst q; kernel_rfl) | (obtain ⟨a, b, q⟩ := lenE2 h; subst q; kernel_rfl) | (obtain ⟨a, b, c, q⟩ := lenE3 h; subst q; kernel_rfl) | (obtain ⟨a, b, c, d, q⟩ := lenE4 h; subst q; kernel_rfl) | (obtain ⟨a, b, c, d, e, q⟩ := lenE5 h; subst q; kernel_rfl) | (obtain ⟨a, b, c, d, e, f, q⟩ := lenE6 h; subst q; kernel_rfl) | (obtain ⟨a, b, c, d, e, f, g, q⟩ := lenE7 h; subst q; kernel_rfl))); (case k5 => kernel_rfl); (case k6 => decide)))
noncomputable abbrev rdF (b : List UInt8) (p : Nat) : List (Str × Ty) := [("octets", tB b), ("at", tN p)]
section
variable {w : World} {c : Cx w} {ob : List Ob} {dx : Addr} {b : List UInt8} {p : Nat}
theorem Ev.rdAt {c : Cx w} {L : Lc} {ob1 : List Ob} {e : PySem.Expr} {pos : Pos} {i : Nat} (he : eval (.Attribute e "at" pos) c.env = (do let o ← eval e c.env; standAt pos.atName; let r ← holding [o] (getAttr o "at" true); letTemporaryGo e o r; pure r)) (h : Ev c L ob e (tOwn 323 dx) ob1) (hi : ob1[i]? = some (oD dx (rdF b p))) : Ev c L ob (.Attribute e "at" pos) (tN p) ob1 := Ev.att he (rd_at w) h (Ins.own hi) (.there rfl .here) Hd.n
theorem Ev.rdO {c : Cx w} {L : Lc} {ob1 : List Ob} {e : PySem.Expr} {pos : Pos} {i : Nat} (he : eval (.Attribute e "octets" pos) c.env = (do let o ← eval e c.env; standAt pos.atName; let r ← holding [o] (getAttr o "octets" true); letTemporaryGo e o r; pure r)) (h : Ev c L ob e (tOwn 323 dx) ob1) (hi : ob1[i]? = some (oD dx (rdF b p))) : Ev c L ob (.Attribute e "octets" pos) (tB b) ob1 := Ev.att he (rd_octets w) h (Ins.own hi) .here Hd.b
theorem OpX.num (hr : Room c.A 3) (hz : b.length ≤ 16000000) : OpX c [tOwn 323 dx] (fun us => PySem.call (.ref 278) us) (oD dx (rdF b p) :: ob) (rdNum b p) (fun x : Nat × Nat => tN x.1) (fun x => oD dx (rdF b x.2) :: ob) := by
  refine' OpX.def_ (f := 278) (obf := [oD dx (rdF b p)]) (obr := fun x : Nat × Nat => [oD dx (rdF b x.2)]) ["self", "found", "piece", "octet"] ["range", "TRIE_MOST_PIECES", "len", "BadTable"] ["self"] hr (m := 2) (by decide) ?ho ?k1 ?k2 ?k3 ?k4 ?k5 ?k6 rfl ?h
  wtm_at "fn"
  case h =>
    intro c hr hnm hgn
    refine Bs.set (t1 := tN 0) hnm (by wtm_at "ix") (by wtm_at "d") rfl Ev.nat ?_
    refine Bs.for_ (σ := Nat) (I := fun i f => rdN b (5 - i) (p + i) f = rdNum b p) (Ls := fun i f => ⟨["found", "self"], [tN f, tOwn 323 dx]⟩) (obs := fun i f => [oD dx (rdF b (p + i))]) (n := 5) (x0 := 0) (by intro _; rfl)
      (Itr.range hgn (by wtm_at "d") rfl ((Ev.glob hgn (by wtm_at "d") (by wtm_at "kis")).conv (t' := tN 5) fun Z v e => ⟨_, e⟩) (by decide)) rfl (fun i f it ot hi hN => ⟨_, Asn.name hnm (by wtm_at "ix") (by wtm_at "d"), ?_⟩) ?_
    · rw [show 5 - i = (4 - i) + 1 by exact Nat.le_antisymm (lin2 (Nat.le_of_eq (Nat.sub_add_cancel (show i ≤ 5 from lin1 hi (by wtm_at "a")))) (Nat.le_of_eq (Nat.sub_add_cancel (show i ≤ 4 from lin1 hi (by wtm_at "a"))).symm) (by wtm_at "a")) (lin2 (Nat.le_of_eq (Nat.sub_add_cancel (show i ≤ 4 from lin1 hi (by wtm_at "a")))) (Nat.le_of_eq (Nat.sub_add_cancel (show i ≤ 5 from lin1 hi (by wtm_at "a"))).symm) (by wtm_at "a")), rdN] at hN
      cases e : b[p + i]? with
      | none =>
        rw [e] at hN
        rw [← hN]
        refine .inr ⟨rfl, ?_⟩
        refine Bs.take rfl ((Tq.geN rfl (Ev.rdAt rfl (by wtm_at "lo") (i := 0) rfl) (Ev.lenB hgn (by wtm_at "d") rfl (Ev.rdO rfl (by wtm_at "lo") (i := 0) rfl) hz)).yes (List.getElem?_eq_none_iff.mp e)) ?_
        exact Bs.raise hr hgn rfl
      | some o =>
        have hlt := (List.getElem?_eq_some_iff.mp e).1
        have hgo : b.getD (p + i) 0 = o := by rw [List.getD_eq_getElem?_getD, e]; rfl
        rw [e] at hN
        dsimp only at hN
        refine' turn_pre (L' := ⟨["octet", "piece", "found", "self"], [tN o.toNat, tN i, tN f, tOwn 323 dx]⟩) (ob' := [oD dx (rdF b (p + (i + 1))), oIs it ot]) (fun o1 h => ?pre) ?_
        case pre =>
          refine Bs.skip ((Tq.geN rfl (Ev.rdAt rfl (by wtm_at "lo") (i := 0) rfl) (Ev.lenB hgn (by wtm_at "d") rfl (Ev.rdO rfl (by wtm_at "lo") (i := 0) rfl) hz)).no (Nat.not_le.mpr hlt)) ?_
          refine Bs.set (t1 := tN o.toNat) hnm (by wtm_at "ix") (by wtm_at "d") rfl (hgo ▸ Ev.byteI (Ev.rdO rfl (by wtm_at "lo") (i := 0) rfl) (Ev.rdAt rfl (by wtm_at "lo") (i := 0) rfl) hlt hz (fun _ _ _ _ => ⟨_, rfl⟩)) ?_
          refine Bs.att (i := 0) rfl (rd_at w) (Ev.add (Ev.rdAt rfl (by wtm_at "lo") (i := 0) rfl) Ev.nat) (by wtm_at "lo") rfl (.there rfl .here) (nb rfl) ?_
          exact h
        refine' turn_pre (L' := ⟨["octet", "piece", "found", "self"], [tN o.toNat, tN i, tN (f ||| ((o.toNat &&& 127) <<< (7 * i))), tOwn 323 dx]⟩) (ob' := [oD dx (rdF b (p + (i + 1))), oIs it ot]) (fun o1 h => ?pre) ?_
        case pre =>
          exact Bs.upd (i := 2) hnm (by wtm_at "ix") (by wtm_at "ix") (by wtm_at "d") rfl (Ev.bor (by wtm_at "lo") (Ev.shl (Ev.band (by wtm_at "lo") Ev.nat) (Ev.mul Ev.nat (by wtm_at "lo") (by decide)) (by omega) (Nat.lt_of_le_of_lt Nat.and_le_right (by decide)))) h
        by_cases h2 : o.toNat < 128
        · rw [if_pos h2, show 4 - (4 - i) = i by exact Nat.le_antisymm (lin2 (Nat.le_of_eq (Nat.sub_add_cancel (show i ≤ 4 from lin1 hi (by wtm_at "a"))).symm) (Nat.le_of_eq (Nat.sub_add_cancel (show 4 - i ≤ 4 from lin1 (Nat.le_of_eq (Nat.sub_add_cancel (show i ≤ 4 from lin1 hi (by wtm_at "a")))) (by wtm_at "a")))) (by wtm_at "a")) (lin2 (Nat.le_of_eq (Nat.sub_add_cancel (show i ≤ 4 from lin1 hi (by wtm_at "a")))) (Nat.le_of_eq (Nat.sub_add_cancel (show 4 - i ≤ 4 from lin1 (Nat.le_of_eq (Nat.sub_add_cancel (show i ≤ 4 from lin1 hi (by wtm_at "a")))) (by wtm_at "a"))).symm) (by wtm_at "a"))] at hN
          by_cases h3 : o.toNat = 0 ∧ 0 < i
          · rw [if_pos h3] at hN
            rw [← hN]
            refine .inr ⟨rfl, Bs.take rfl ((Tq.ltN rfl (by wtm_at "lo") Ev.nat).yes h2) (Bs.take rfl ((Tq.and_ (Tq.eqN rfl (by wtm_at "lo") Ev.nat) .rfl' fun _ => Tq.and_ (Tq.gtN rfl (by wtm_at "lo") Ev.nat) .rfl' fun _ => Tq.and0).yes ⟨h3.1, h3.2, trivial⟩) (Bs.raise hr hgn rfl))⟩
          · rw [if_neg h3] at hN
            rw [← hN]
            exact .inr ⟨rfl, Bs.take rfl ((Tq.ltN rfl (by wtm_at "lo") Ev.nat).yes h2) (Bs.skip ((Tq.and_ (Tq.eqN rfl (by wtm_at "lo") Ev.nat) .rfl' fun _ => Tq.and_ (Tq.gtN rfl (by wtm_at "lo") Ev.nat) .rfl' fun _ => Tq.and0).no fun q => h3 ⟨q.1, q.2.1⟩) (Bs.ret (by wtm_at "lo")))⟩
        · rw [if_neg h2] at hN
          refine .inl ⟨f ||| ((o.toNat &&& 127) <<< (7 * i)), ?_, Bs.skip ((Tq.ltN rfl (by wtm_at "lo") Ev.nat).no h2) (Bs.drop 2)⟩
          rw [← hN, show 5 - (i + 1) = 4 - i by exact Nat.le_antisymm (lin2 (Nat.le_of_eq (Nat.sub_add_cancel (show i + 1 ≤ 5 from lin1 hi (by wtm_at "a")))) (Nat.le_of_eq (Nat.sub_add_cancel (show i ≤ 4 from lin1 hi (by wtm_at "a"))).symm) (by wtm_at "a")) (lin2 (Nat.le_of_eq (Nat.sub_add_cancel (show i ≤ 4 from lin1 hi (by wtm_at "a")))) (Nat.le_of_eq (Nat.sub_add_cancel (show i + 1 ≤ 5 from lin1 hi (by wtm_at "a"))).symm) (by wtm_at "a")), show 4 - (4 - i) = i by exact Nat.le_antisymm (lin2 (Nat.le_of_eq (Nat.sub_add_cancel (show i ≤ 4 from lin1 hi (by wtm_at "a"))).symm) (Nat.le_of_eq (Nat.sub_add_cancel (show 4 - i ≤ 4 from lin1 (Nat.le_of_eq (Nat.sub_add_cancel (show i ≤ 4 from lin1 hi (by wtm_at "a")))) (by wtm_at "a")))) (by wtm_at "a")) (lin2 (Nat.le_of_eq (Nat.sub_add_cancel (show i ≤ 4 from lin1 hi (by wtm_at "a")))) (Nat.le_of_eq (Nat.sub_add_cancel (show 4 - i ≤ 4 from lin1 (Nat.le_of_eq (Nat.sub_add_cancel (show i ≤ 4 from lin1 hi (by wtm_at "a")))) (by wtm_at "a"))).symm) (by wtm_at "a"))]; rfl
    · intro f hN
      rw [show 5 - 5 = 0 from rfl, rdN] at hN
      rw [← hN]
      exact Bs.raise hr hgn rfl
theorem Ev.num {L : Lc} {e : PySem.Expr} {apos pos : Pos} {pl : Sem Bool} {n q : Nat} (he : eval (.Call (.Attribute e "number" apos) [] [] pos) c.env = (do let ov ← eval e c.env; standAt apos.atName; let (f, first) ← holding [ov] (getMethod ov "number" pl); callWith pos f first (backTo pos (starEach [] c.env)) (backToKw pos (keywordEach [] c.env))))
    (hr : Room c.A 3) (hz : b.length ≤ 16000000) (h : Ev c L (oD dx (rdF b p) :: ob) e (tOwn 323 dx) (oD dx (rdF b p) :: ob)) (hN : rdNum b p = .ok (n, q)) : Ev c L (oD dx (rdF b p) :: ob) (.Call (.Attribute e "number" apos) [] [] pos) (tN n) (oD dx (rdF b q) :: ob) :=
  Ev.meth0 he (rdM_number w) (by kernel_rfl) h (Ins.own (i := 0) rfl) rfl ((OpX.num hr hz).ok hN)
theorem Er.num {L : Lc} {e : PySem.Expr} {apos pos : Pos} {pl : Sem Bool} {word : Str} (he : eval (.Call (.Attribute e "number" apos) [] [] pos) c.env = (do let ov ← eval e c.env; standAt apos.atName; let (f, first) ← holding [ov] (getMethod ov "number" pl); callWith pos f first (backTo pos (starEach [] c.env)) (backToKw pos (keywordEach [] c.env))))
    (hr : Room c.A 3) (hz : b.length ≤ 16000000) (h : Ev c L (oD dx (rdF b p) :: ob) e (tOwn 323 dx) (oD dx (rdF b p) :: ob)) (hN : rdNum b p = .error word) : Er c L (oD dx (rdF b p) :: ob) (.Call (.Attribute e "number" apos) [] [] pos) word :=
  Er.meth0 he (rdM_number w) (by kernel_rfl) h (Ins.own (i := 0) rfl) rfl ((OpX.num hr hz).er hN)
theorem OpX.part {many : Nat} (hr : Room c.A 3) (hz : b.length ≤ 16000000) : OpX c [tOwn 323 dx, tN many] (fun us => PySem.call (.ref 285) us) (oD dx (rdF b p) :: ob) (rdPart b p many) (fun x : List UInt8 × Nat => tB x.1) (fun x => oD dx (rdF b x.2) :: ob) := by
  refine' OpX.def_ (f := 285) (obf := [oD dx (rdF b p)]) (obr := fun x : List UInt8 × Nat => [oD dx (rdF b x.2)]) ["self", "many", "found"] ["len", "BadTable"] ["self", "many"] hr (m := 2) (by decide) ?ho ?k1 ?k2 ?k3 ?k4 ?k5 ?k6 rfl ?h
  wtm_at "fn"
  case h =>
    intro c hr hnm hgn
    by_cases h : b.length < p + many
    · rw [show rdPart b p many = .error _ from if_pos h]
      exact Bs.take rfl ((Tq.gtN rfl (Ev.add (Ev.rdAt rfl (by wtm_at "lo") (i := 0) rfl) (by wtm_at "lo")) (Ev.lenB hgn (by wtm_at "d") rfl (Ev.rdO rfl (by wtm_at "lo") (i := 0) rfl) hz)).yes h) (Bs.raise hr hgn rfl)
    · rw [show rdPart b p many = .ok _ from if_neg h]
      have h' := Nat.le_of_not_lt h
      refine Bs.skip ((Tq.gtN rfl (Ev.add (Ev.rdAt rfl (by wtm_at "lo") (i := 0) rfl) (by wtm_at "lo")) (Ev.lenB hgn (by wtm_at "d") rfl (Ev.rdO rfl (by wtm_at "lo") (i := 0) rfl) hz)).no h) ?_
      refine Bs.set (t1 := tB ((b.drop p).take many)) hnm (by wtm_at "ix") (by wtm_at "d") rfl ((Ev.bcut (Ev.rdO rfl (by wtm_at "lo") (i := 0) rfl) (EvP.nat (Ev.rdAt rfl (by wtm_at "lo") (i := 0) rfl) (Nat.le_trans (Nat.le_add_right _ _) (Nat.le_trans h' hz))) (EvP.nat (Ev.add (Ev.rdAt rfl (by wtm_at "lo") (i := 0) rfl) (by wtm_at "lo")) (Nat.le_trans h' hz)) hz sl_bytes).cast (congrArg tB (cut_run b p many h'))) ?_
      exact Bs.att (i := 0) rfl (rd_at w) (Ev.add (Ev.rdAt rfl (by wtm_at "lo") (i := 0) rfl) (by wtm_at "lo")) (by wtm_at "lo") rfl (.there rfl .here) (nb rfl) (Bs.ret (by wtm_at "lo"))
noncomputable def tTRow (ps : List (Nat × Nat)) : Ty := tIn 99 [("runs", tRow ps), ("numbers", tLs ((expand ps).map tN))]
theorem Op.row {ps : List (Nat × Nat)} (hr : Room c.A 2) (hb : (ps.map (·.1)).sum ≤ 10000000) : Op c [tRow ps] (fun us => PySem.call (.ref 99) us) ob (tTRow ps) ob := by
  refine' Op.newI (s0 := "self") ["self", "runs", "many", "number"] [] ["runs"] (row_new w) hr (m := 0) (Nat.le_refl _) ?ho ?k1 ?k2 ?k3 ?k4 ?k5 ?k6 rfl ?h
  wtm_at "fn"
  case h =>
    intro c dx hr hnm hgn
    refine Bs.att (i := 0) (fs := []) rfl (row_runs w) (by wtm_at "lo") (by wtm_at "lo") rfl .nil (nb rfl) ?_
    refine Bs.attL (i := 0) (us := []) (fs := [("runs", tRow ps)]) (fs' := [("runs", tRow ps)]) rfl (row_numbers w) .nil (Nat.zero_le _) (fun l => by wtm_at "lo") rfl (fun l => .there rfl .nil) (nb rfl) fun l hl => ?_
    refine Bs.for_ (σ := Unit) (I := fun _ _ => True) (Ls := fun _ _ => ⟨["self", "runs"], [tOwn 99 dx, tRow ps]⟩) (obs := fun i _ => [oLs l ((expand (ps.take i)).map tN), oD dx [("runs", tRow ps), ("numbers", tRef l)]]) (x0 := ()) (by intro _; rfl)
      (Itr.list (by wtm_at "lo")) trivial (fun i _ it ot hi _ => ?_) fun _ _ => ?_
    · obtain ⟨q, hq⟩ : ∃ q, ps[i]? = some q := ⟨_, List.getElem?_eq_getElem hi⟩
      refine ⟨⟨["number", "many", "self", "runs"], [tN q.2, tN q.1, tOwn 99 dx, tRow ps]⟩, by rw [hq]; exact Asn.pair hnm (by wtm_at "ix") (by wtm_at "ix") (by wtm_at "d") (by wtm_at "d"), .inl ⟨(), trivial, ?_⟩⟩
      have hs := sum_take_le (ps.map (·.1)) (i + 1)
      rw [← List.map_take, ← expand_len, expand_take hq, List.length_append, List.length_replicate] at hs
      refine Bs.extendL (j := 0) (i := 0) (us := (expand (ps.take i)).map tN) rfl rfl rfl (Ev.att rfl (row_numbers w) (by wtm_at "lo") (Ins.own (i := 1) rfl) (.there rfl .here) Hd.ref) rfl (Ev.rep (n := q.1) (Ev.list (.cons rfl (by wtm_at "lo") .nil) (nb rfl)) (by wtm_at "lo") (by exact lin2 hb hs (by wtm_at "a"))) rfl (by rw [List.length_map, List.length_replicate]; exact lin2 hb hs (by wtm_at "a")) ?_
      rw [show (expand (ps.take i)).map tN ++ List.replicate q.1 (tN q.2) = (expand (ps.take (i + 1))).map tN by rw [expand_take hq, List.map_append, List.map_replicate]]
      exact Bs.drop 2
    · rw [List.take_length]
      exact Bs.frzD hl (.there rfl .here) (.there rfl .here) Bs.end_
end
section
variable {w : World} {c : Cx w} {ob : List Ob} {dx : Addr} {b : List UInt8} {p size below : Nat}
theorem rdRow_err {n p1 : Nat} {wd : Str} (hN : rdNum b p = .ok (n, p1)) (h : rdRuns b size below n p1 [] 0 = .error wd) : rdRow b size below p = .error wd := by
  unfold rdRow; rw [hN]; dsimp only; rw [h]
theorem last_snd {runs : List (Nat × Nat)} {k : Nat} : runs.getLast?.map (·.2) = some k ↔ ∃ rs x, runs = rs ++ [x] ∧ x.2 = k := by
  constructor
  · intro h
    rcases List.eq_nil_or_concat runs with rfl | ⟨rs, x, rfl⟩
    · cases h
    · rw [List.concat_eq_append, List.getLast?_concat] at h
      exact ⟨rs, x, List.concat_eq_append, Option.some.inj h⟩
  · rintro ⟨rs, x, rfl, rfl⟩
    rw [List.getLast?_concat]; rfl
theorem OpX.row (hr : Room c.A 5) (hz : b.length ≤ 16000000) (hsz : size ≤ 1000000) : OpX c [tOwn 323 dx, tN size, tN below] (fun us => PySem.call (.ref 292) us) (oD dx (rdF b p) :: ob) (rdRow b size below p) (fun x : List (Nat × Nat) × Nat => tTRow x.1) (fun x => oD dx (rdF b x.2) :: ob) := by
  refine' OpX.def_ (f := 292) (obf := [oD dx (rdF b p)]) (obr := fun x : List (Nat × Nat) × Nat => [oD dx (rdF b x.2)]) ["self", "size", "below", "runs", "filled", "turn", "many", "number"] ["range", "BadTable", "TrieRow"] ["self", "size", "below"] hr (m := 4) (by decide) ?ho ?k1 ?k2 ?k3 ?k4 ?k5 ?k6 rfl ?h
  wtm_at "fn"
  case h =>
    intro c hr hnm hgn
    have hr2 : Room c.A 2 := hr.le (by decide)
    have hr3 : Room c.A 3 := hr.le (by decide)
    have hr1 : Room c.A 1 := hr.le (by decide)
    refine Bs.own (us := []) hnm (by wtm_at "ix") (by wtm_at "d") rfl .nil (Nat.zero_le _) fun l hl => Bs.swap ?_
    refine Bs.set (t1 := tN 0) hnm (by wtm_at "ix") (by wtm_at "d") rfl Ev.nat ?_
    cases hN : rdNum b p with
    | error wd =>
      rw [show rdRow b size below p = .error wd by unfold rdRow; rw [hN]]
      exact Bs.forE (by intro _; rfl) (Er.ctypeA hgn (by wtm_at "d") (by wtm_at "kis") (by boot_by_name) (by decide) rfl (Er.num rfl hr3 hz (by wtm_at "lo") hN))
    | ok x =>
      obtain ⟨n, p1⟩ := x
      have hn := (rdNum_ok hN).1
      refine Bs.for_ (σ := Nat × List (Nat × Nat) × Nat) (I := fun i x => x.2.1.length ≤ x.2.2 ∧ (x.2.1.map (·.1)).sum = x.2.2 ∧ x.2.2 ≤ size ∧ rdRuns b size below (n - i) x.1 x.2.1 x.2.2 = rdRuns b size below n p1 [] 0)
        (Ls := fun i x => ⟨["filled", "runs", "self", "size", "below"], [tN x.2.2, tRef l, tOwn 323 dx, tN size, tN below]⟩) (obs := fun i x => [oD dx (rdF b x.1), oLs l (x.2.1.map tPair)]) (x0 := (p1, [], 0)) (by intro _; rfl)
        (Itr.range hgn (by wtm_at "d") rfl (Ev.num rfl hr3 hz (by wtm_at "lo") hN) (Nat.le_of_lt (Nat.lt_trans hn (by decide)))) ⟨Nat.le_refl _, rfl, Nat.zero_le _, rfl⟩ (fun i x it ot hi hI => ⟨_, Asn.name hnm (by wtm_at "ix") (by wtm_at "d"), ?_⟩) fun x hI => ?_
      · obtain ⟨q, runs, f⟩ := x
        obtain ⟨h1, h2, h3, hR⟩ := hI
        dsimp only at h1 h2 h3 hR
        rw [show n - i = (n - (i + 1)) + 1 by exact Nat.le_antisymm (lin2 (Nat.le_of_eq (Nat.sub_add_cancel (show i ≤ n from lin1 hi (by wtm_at "a")))) (Nat.le_of_eq (Nat.sub_add_cancel (show i + 1 ≤ n from lin1 hi (by wtm_at "a"))).symm) (by wtm_at "a")) (lin2 (Nat.le_of_eq (Nat.sub_add_cancel (show i + 1 ≤ n from lin1 hi (by wtm_at "a")))) (Nat.le_of_eq (Nat.sub_add_cancel (show i ≤ n from lin1 hi (by wtm_at "a"))).symm) (by wtm_at "a")), rdRuns] at hR
        cases hN1 : rdNum b q with
        | error wd =>
          rw [hN1] at hR
          rw [rdRow_err hN hR.symm]
          exact .inr ⟨rfl, Bs.setE hnm rfl (Er.num rfl hr3 hz (by wtm_at "lo") hN1)⟩
        | ok x =>
          obtain ⟨many, q1⟩ := x
          rw [hN1] at hR
          dsimp only at hR
          refine' turn_pre (L' := ⟨"many" :: "turn" :: _, tN many :: tN i :: _⟩) (ob' := [oD dx (rdF b q1), oLs l (runs.map tPair), oIs it ot]) (fun o1 h => ?pre) ?_
          case pre =>
            refine Bs.set hnm (by wtm_at "ix") (by wtm_at "d") rfl (Ev.num rfl hr3 hz (by wtm_at "lo") hN1) ?_
            exact h
          cases hN2 : rdNum b q1 with
          | error wd =>
            rw [hN2] at hR
            rw [rdRow_err hN hR.symm]
            exact .inr ⟨rfl, Bs.setE hnm rfl (Er.num rfl hr3 hz (by wtm_at "lo") hN2)⟩
          | ok x =>
            obtain ⟨number, q2⟩ := x
            rw [hN2] at hR
            dsimp only at hR
            refine' turn_pre (L' := ⟨"number" :: "many" :: "turn" :: _, tN number :: tN many :: tN i :: _⟩) (ob' := [oD dx (rdF b q2), oLs l (runs.map tPair), oIs it ot]) (fun o1 h => ?pre) ?_
            case pre =>
              refine Bs.set hnm (by wtm_at "ix") (by wtm_at "d") rfl (Ev.num rfl hr3 hz (by wtm_at "lo") hN2) ?_
              exact h
            by_cases c1 : many = 0 ∨ f + many > size
            · rw [if_pos c1] at hR
              rw [rdRow_err hN hR.symm]
              exact .inr ⟨rfl, Bs.take rfl ((Tq.or_ (Tq.eqN rfl (by wtm_at "lo") Ev.nat) .rfl' fun _ => Tq.or_ (Tq.gtN rfl (Ev.add (by wtm_at "lo") (by wtm_at "lo")) (by wtm_at "lo")) .rfl' fun _ => Tq.orN).yes (c1.imp id .inl)) (Bs.raise hr2 hgn rfl)⟩
            rw [if_neg c1] at hR
            refine' turn_pre (L' := ⟨"number" :: "many" :: "turn" :: _, tN number :: tN many :: tN i :: _⟩) (ob' := [oD dx (rdF b q2), oLs l (runs.map tPair), oIs it ot]) (fun o1 h => ?pre) ?_
            case pre =>
              refine Bs.skip ((Tq.or_ (Tq.eqN rfl (by wtm_at "lo") Ev.nat) .rfl' fun _ => Tq.or_ (Tq.gtN rfl (Ev.add (by wtm_at "lo") (by wtm_at "lo")) (by wtm_at "lo")) .rfl' fun _ => Tq.orN).no fun q => c1 (q.imp id fun z => z.elim id False.elim)) ?_
              exact h
            by_cases c2 : below ≤ number
            · rw [if_pos c2] at hR
              rw [rdRow_err hN hR.symm]
              exact .inr ⟨rfl, Bs.take rfl ((Tq.geN rfl (by wtm_at "lo") (by wtm_at "lo")).yes c2) (Bs.raise hr2 hgn rfl)⟩
            rw [if_neg c2] at hR
            refine' turn_pre (L' := ⟨"number" :: "many" :: "turn" :: _, tN number :: tN many :: tN i :: _⟩) (ob' := [oD dx (rdF b q2), oLs l (runs.map tPair), oIs it ot]) (fun o1 h => ?pre) ?_
            case pre =>
              refine Bs.skip ((Tq.geN rfl (by wtm_at "lo") (by wtm_at "lo")).no c2) ?_
              exact h
            by_cases c3 : runs.getLast?.map (·.2) = some number
            · rw [if_pos c3] at hR
              rw [rdRow_err hN hR.symm]
              obtain ⟨rs, x, rfl, e⟩ := last_snd.mp c3
              exact .inr ⟨rfl, Bs.take rfl ((Tq.and_ (q := x.2 = number ∧ True) (Tq.neNil hr1 rfl (by wtm_at "lo") (i := 1) rfl) .rfl' fun _ => Tq.and_ (Tq.eqN rfl (Ev.tupI (ts := [tN x.1, tN x.2]) (Ev.lastO (us0 := rs.map tPair) (fun _ _ => ⟨_, rfl⟩) (by wtm_at "lo") (i := 1) (by rw [List.map_append]; rfl)) Ev.nat rfl (nb rfl) (fun _ _ _ => ⟨_, rfl⟩)) (by wtm_at "lo")) .rfl' fun _ => Tq.and0).yes ⟨by simp, e, trivial⟩) (Bs.raise hr2 hgn rfl)⟩
            rw [if_neg c3] at hR
            have hlen : runs.length ≤ size := Nat.le_trans h1 h3
            have c1' := not_or.mp c1
            refine .inl ⟨(q2, runs ++ [(many, number)], f + many), ⟨?_, ?_, Nat.le_of_not_lt c1'.2, hR⟩, ?_⟩
            · rw [List.length_append]; exact Nat.add_le_add h1 (Nat.pos_of_ne_zero c1'.1)
            · rw [List.map_append, List.sum_append, h2]; simp
            refine Bs.skip (ob1 := [oD dx (rdF b q2), oLs l (runs.map tPair), oIs it ot]) ?_ ?_
            · rcases List.eq_nil_or_concat runs with rfl | ⟨rs, x, rfl⟩
              · exact (Tq.and_ (q := True) (Tq.neNil hr1 rfl (by wtm_at "lo") (i := 1) rfl) .rfl' fun hp => absurd rfl hp).no fun q => q.1 rfl
              · rw [List.concat_eq_append] at c3
                exact (Tq.and_ (q := x.2 = number ∧ True) (Tq.neNil hr1 rfl (by wtm_at "lo") (i := 1) rfl) .rfl' fun _ => Tq.and_ (Tq.eqN rfl (Ev.tupI (ts := [tN x.1, tN x.2]) (Ev.lastO (us0 := rs.map tPair) (fun _ _ => ⟨_, rfl⟩) (by wtm_at "lo") (i := 1) (by rw [List.concat_eq_append, List.map_append]; rfl)) Ev.nat rfl (nb rfl) (fun _ _ _ => ⟨_, rfl⟩)) (by wtm_at "lo")) .rfl' fun _ => Tq.and0).no fun q => c3 (last_snd.mpr ⟨rs, x, rfl, q.2.1⟩)
            refine Bs.append (i := 1) (us := runs.map tPair) (t := tPair (many, number)) rfl rfl rfl (by wtm_at "lo") rfl (Ev.tup (.cons rfl (by wtm_at "lo") (.cons rfl (by wtm_at "lo") .nil)) (nb rfl)) rfl (by rw [List.length_map]; exact lin3 hsz h1 h3 (by wtm_at "a")) ?_
            rw [show runs.map tPair ++ [tPair (many, number)] = (runs ++ [(many, number)]).map tPair by rw [List.map_append]; rfl]
            exact Bs.upd (i := 3) hnm (by wtm_at "ix") (by wtm_at "ix") (by wtm_at "d") rfl (Ev.add (by wtm_at "lo") (by wtm_at "lo")) (Bs.drop 3)
      · obtain ⟨q, runs, f⟩ := x
        obtain ⟨h1, h2, h3, hR⟩ := hI
        dsimp only at h1 h2 h3 hR
        rw [Nat.sub_self, rdRuns] at hR
        have e : rdRow b size below p = if f < size then .error "a row has another size" else .ok (runs, q) := by
          unfold rdRow; rw [hN]; dsimp only; rw [← hR]
        rw [e]
        by_cases c1 : f < size
        · rw [if_pos c1]
          exact Bs.take rfl ((Tq.ltN rfl (by wtm_at "lo") (by wtm_at "lo")).yes c1) (Bs.raise hr2 hgn rfl)
        · rw [if_neg c1]
          refine Bs.skip ((Tq.ltN rfl (by wtm_at "lo") (by wtm_at "lo")).no c1) (Bs.swap (Bs.frz hl (i := 1) (by wtm_at "ix") (by wtm_at "d") rfl ?_))
          exact Bs.ret (Ev.cdef (f := 99) hgn (by wtm_at "d") (by wtm_at "kis") (by kernel_rfl) rfl rfl (.cons rfl (by wtm_at "lo") .nil) (Op.row hr2 (by rw [h2]; exact lin2 hsz h3 (by wtm_at "a"))))
end
section
variable {w : World} {c : Cx w} {ob : List Ob} {dx : Addr} {b : List UInt8} {p size below most : Nat} {t : Ty}
theorem Op.same (hr : Room c.A 1) : Op c [t] (fun us => PySem.call (.ref 416) us) ob t ob := by
  refine' Op.def_ (f := 416) (obf := []) (ob' := []) ["worth"] [] ["worth"] hr (m := 0) (by decide) ?ho ?k1 ?k2 ?k3 ?k4 ?k5 ?k6 rfl ?h
  wtm_at "fn"
  case h =>
    intro c hr hnm hgn
    exact Bs.ret (by wtm_at "lo")
theorem OpX.rows (hr : Room c.A 6) (hz : b.length ≤ 16000000) (hsz : size ≤ 1000000) (hmo : most ≤ 1000000) : OpX c [tOwn 323 dx, tN size, tN below, tN most] (fun us => PySem.call (.ref 299) us) (oD dx (rdF b p) :: ob) (rdStage b size below most p) (fun x : List (List (Nat × Nat)) × Nat => tLs (x.1.map tTRow)) (fun x => oD dx (rdF b x.2) :: ob) := by
  refine' OpX.def_ (f := 299) (obf := [oD dx (rdF b p)]) (obr := fun x : List (List (Nat × Nat)) × Nat => [oD dx (rdF b x.2)]) ["self", "size", "below", "most", "found", "known", "many", "turn", "row", "key"] ["range", "BadTable", "tuple"] ["self", "size", "below", "most"] hr (m := 5) (by decide) ?ho ?k1 ?k2 ?k3 ?k4 ?k5 ?k6 rfl ?h
  wtm_at "fn"
  case h =>
    intro c hr hnm hgn
    have hr2 : Room c.A 2 := hr.le (by decide)
    have hr3 : Room c.A 3 := hr.le (by decide)
    have hr1 : Room c.A 1 := hr.le (by decide)
    refine Bs.own (us := []) hnm (by wtm_at "ix") (by wtm_at "d") rfl .nil (Nat.zero_le _) fun l hl => Bs.swap ?_
    refine Bs.dict (fun d => oRk w d []) (fun _ => rfl) (fun _ _ => .empty) hnm (by wtm_at "ix") (by wtm_at "d") rfl fun d hd => Bs.perm (ob1 := [oD dx (rdF b p), oLs l ([].map tTRow), oRk w d []]) mv2 ?_
    cases hN : rdNum b p with
    | error wd =>
      rw [show rdStage b size below most p = .error wd by unfold rdStage; rw [hN]]
      exact Bs.setE hnm rfl (Er.num rfl hr3 hz (by wtm_at "lo") hN)
    | ok x =>
      obtain ⟨n, p1⟩ := x
      refine Bs.set hnm (by wtm_at "ix") (by wtm_at "d") rfl (Ev.num rfl hr3 hz (by wtm_at "lo") hN) ?_
      by_cases c1 : most < n
      · rw [show rdStage b size below most p = .error "more blocks than places" by unfold rdStage; rw [hN]; exact if_pos c1]
        exact Bs.take rfl ((Tq.gtN rfl (by wtm_at "lo") (by wtm_at "lo")).yes c1) (Bs.raise hr2 hgn rfl)
      refine Bs.skip ((Tq.gtN rfl (by wtm_at "lo") (by wtm_at "lo")).no c1) ?_
      rw [show rdStage b size below most p = rdRows b size below n p1 [] by unfold rdStage; rw [hN]; exact if_neg c1]
      have hn := Nat.le_trans (Nat.le_of_not_lt c1) hmo
      refine Bs.for_ (σ := Nat × List (List (Nat × Nat))) (I := fun i x => x.2.length = i ∧ rdRows b size below (n - i) x.1 x.2 = rdRows b size below n p1 [])
        (Ls := fun i x => ⟨["many", "known", "found", "self", "size", "below", "most"], [tN n, tRef d, tRef l, tOwn 323 dx, tN size, tN below, tN most]⟩) (obs := fun i x => [oD dx (rdF b x.1), oLs l (x.2.map tTRow), oRk w d x.2]) (x0 := (p1, [])) (by intro _; rfl)
        (Itr.range hgn (by wtm_at "d") rfl (by wtm_at "lo") (Nat.le_trans hn (by decide))) ⟨rfl, rfl⟩ (fun i x it ot hi hI => ⟨_, Asn.name hnm (by wtm_at "ix") (by wtm_at "d"), ?_⟩) fun x hI => ?_
      · obtain ⟨q, rows⟩ := x
        obtain ⟨h1, hR⟩ := hI
        dsimp only at h1 hR
        rw [show n - i = (n - (i + 1)) + 1 by exact Nat.le_antisymm (lin2 (Nat.le_of_eq (Nat.sub_add_cancel (show i ≤ n from lin1 hi (by wtm_at "a")))) (Nat.le_of_eq (Nat.sub_add_cancel (show i + 1 ≤ n from lin1 hi (by wtm_at "a"))).symm) (by wtm_at "a")) (lin2 (Nat.le_of_eq (Nat.sub_add_cancel (show i + 1 ≤ n from lin1 hi (by wtm_at "a")))) (Nat.le_of_eq (Nat.sub_add_cancel (show i ≤ n from lin1 hi (by wtm_at "a"))).symm) (by wtm_at "a")), rdRows] at hR
        have hlen : rows.length < 16000000 := Nat.lt_of_lt_of_le (h1 ▸ hi) (Nat.le_trans hn (by decide))
        cases hN1 : rdRow b size below q with
        | error wd =>
          rw [hN1] at hR
          rw [← hR]
          exact .inr ⟨rfl, Bs.setE hnm rfl (Er.meth rfl rfl rfl (rdM_row w) (by kernel_rfl) (by wtm_at "lo") (Ins.own (i := 0) rfl) rfl (.cons rfl (by wtm_at "lo") (.cons rfl (by wtm_at "lo") .nil)) ((OpX.row hr hz hsz).er hN1))⟩
        | ok x =>
          obtain ⟨row, q1⟩ := x
          have hk := (rdRow_ok hN1).1
          rw [hN1] at hR
          dsimp only at hR
          refine' turn_pre (L' := ⟨"key" :: "row" :: "turn" :: _, tTup (row.map tPair) :: tTRow row :: tN i :: _⟩) (ob' := [oD dx (rdF b q1), oLs l (rows.map tTRow), oRk w d rows, oIs it ot]) (fun o1 h => ?pre) ?_
          case pre =>
            refine Bs.set hnm (by wtm_at "ix") (by wtm_at "d") rfl (Ev.meth rfl rfl rfl (rdM_row w) (by kernel_rfl) (by wtm_at "lo") (Ins.own (i := 0) rfl) rfl (.cons rfl (by wtm_at "lo") (.cons rfl (by wtm_at "lo") .nil)) ((OpX.row hr hz hsz).ok hN1)) ?_
            refine Bs.set hnm (by wtm_at "ix") (by wtm_at "d") rfl (Ev.ctype (T := "tuple") hgn (by wtm_at "d") (by wtm_at "kis") (by boot_by_name) (by decide) rfl rfl (.cons rfl (Ev.att rfl (row_runs w) (by wtm_at "lo") Ins.inn .here Hd.ls) .nil) (Op.tupleL (ts := row.map tPair) (by rw [List.length_map]; exact Nat.le_trans hk (Nat.le_trans hsz (by decide))))) ?_
            exact h
          by_cases c2 : row ∈ rows
          · rw [if_pos c2] at hR
            rw [← hR]
            exact .inr ⟨rfl, Bs.take rfl ((Tq.inRow rfl hr1 (by wtm_at "lo") (by wtm_at "lo") (i := 2) rfl hd).yes c2) (Bs.raise hr2 hgn rfl)⟩
          rw [if_neg c2] at hR
          refine .inl ⟨(q1, rows ++ [row]), ⟨by rw [List.length_append, h1]; rfl, hR⟩, Bs.skip ((Tq.inRow rfl hr1 (by wtm_at "lo") (by wtm_at "lo") (i := 2) rfl hd).no c2) ?_⟩
          refine Bs.setRow (i := 2) hr1 rfl Ev.boo (by wtm_at "lo") (by wtm_at "lo") rfl (Nat.le_of_lt hlen) c2 ?_
          refine Bs.append (i := 1) (us := rows.map tTRow) rfl rfl rfl (by wtm_at "lo") rfl (by wtm_at "lo") rfl (by rw [List.length_map]; exact hlen) ?_
          rw [show rows.map tTRow ++ [tTRow row] = (rows ++ [row]).map tTRow by rw [List.map_append]; rfl]
          exact Bs.drop 3
      · obtain ⟨q, rows⟩ := x
        obtain ⟨h1, hR⟩ := hI
        dsimp only at h1 hR
        rw [Nat.sub_self, rdRows] at hR
        rw [← hR]
        refine Bs.swap (Bs.frz hl (i := 2) (by wtm_at "ix") (by wtm_at "d") rfl (Bs.sub (.one (.drop .nil)) ?_))
        exact Bs.ret (by wtm_at "lo")
theorem OpX.values (hr : Room c.A 6) (hz : b.length ≤ 16000000) : OpX c [tOwn 323 dx, tVal (.ref 416)] (fun us => PySem.call (.ref 306) us) (oD dx (rdF b p) :: ob) (rdValues b p) (fun x : List (List UInt8) × Nat => tBs x.1) (fun x => oD dx (rdF b x.2) :: ob) := by
  refine' OpX.def_ (f := 306) (obf := [oD dx (rdF b p)]) (obr := fun x : List (List UInt8) × Nat => [oD dx (rdF b x.2)]) ["self", "value_of", "found", "known", "turn", "part"] ["range", "BadTable"] ["self", "value_of"] hr (m := 5) (by decide) ?ho ?k1 ?k2 ?k3 ?k4 ?k5 ?k6 rfl ?h
  wtm_at "fn"
  case h =>
    intro c hr hnm hgn
    have hr2 : Room c.A 2 := hr.le (by decide)
    have hr3 : Room c.A 3 := hr.le (by decide)
    have hr1 : Room c.A 1 := hr.le (by decide)
    refine Bs.own (us := []) hnm (by wtm_at "ix") (by wtm_at "d") rfl .nil (Nat.zero_le _) fun l hl => Bs.swap ?_
    refine Bs.dict (fun d => oBk w d []) (fun _ => rfl) (fun _ _ => .empty) hnm (by wtm_at "ix") (by wtm_at "d") rfl fun d hd => Bs.perm (ob1 := [oD dx (rdF b p), oLs l ([].map tB), oBk w d []]) mv2 ?_
    cases hN : rdNum b p with
    | error wd =>
      rw [show rdValues b p = .error wd by unfold rdValues; rw [hN]]
      exact Bs.forE (by intro _; rfl) (Er.ctypeA hgn (by wtm_at "d") (by wtm_at "kis") (by boot_by_name) (by decide) rfl (Er.num rfl hr3 hz (by wtm_at "lo") hN))
    | ok x =>
      obtain ⟨n, p1⟩ := x
      have hn := rdNum_ok hN
      rw [show rdValues b p = rdVals b n p1 [] by unfold rdValues; rw [hN]]
      refine Bs.for_ (σ := Nat × List (List UInt8)) (I := fun i x => x.2.length ≤ x.1 ∧ x.1 ≤ b.length ∧ rdVals b (n - i) x.1 x.2 = rdVals b n p1 [])
        (Ls := fun i x => ⟨["known", "found", "self", "value_of"], [tRef d, tRef l, tOwn 323 dx, tVal (.ref 416)]⟩) (obs := fun i x => [oD dx (rdF b x.1), oLs l (x.2.map tB), oBk w d x.2]) (x0 := (p1, [])) (by intro _; rfl)
        (Itr.range hgn (by wtm_at "d") rfl (Ev.num rfl hr3 hz (by wtm_at "lo") hN) (Nat.le_of_lt (Nat.lt_trans hn.1 (by decide)))) ⟨Nat.zero_le _, hn.2.2, rfl⟩ (fun i x it ot hi hI => ⟨_, Asn.name hnm (by wtm_at "ix") (by wtm_at "d"), ?_⟩) fun x hI => ?_
      · obtain ⟨q, vals⟩ := x
        obtain ⟨h1, h2, hR⟩ := hI
        dsimp only at h1 h2 hR
        rw [show n - i = (n - (i + 1)) + 1 by exact Nat.le_antisymm (lin2 (Nat.le_of_eq (Nat.sub_add_cancel (show i ≤ n from lin1 hi (by wtm_at "a")))) (Nat.le_of_eq (Nat.sub_add_cancel (show i + 1 ≤ n from lin1 hi (by wtm_at "a"))).symm) (by wtm_at "a")) (lin2 (Nat.le_of_eq (Nat.sub_add_cancel (show i + 1 ≤ n from lin1 hi (by wtm_at "a")))) (Nat.le_of_eq (Nat.sub_add_cancel (show i ≤ n from lin1 hi (by wtm_at "a"))).symm) (by wtm_at "a")), rdVals] at hR
        cases hN1 : rdNum b q with
        | error wd =>
          rw [hN1] at hR
          rw [← hR]
          exact .inr ⟨rfl, Bs.setE hnm rfl (Er.methA rfl rfl rfl (rdM_part w) (by kernel_rfl) (by wtm_at "lo") (Ins.own (i := 0) rfl) rfl (Er.num rfl hr3 hz (by wtm_at "lo") hN1))⟩
        | ok x =>
          obtain ⟨k, q1⟩ := x
          have hk := rdNum_ok hN1
          rw [hN1] at hR
          dsimp only at hR
          cases hN2 : rdPart b q1 k with
          | error wd =>
            rw [hN2] at hR
            rw [← hR]
            exact .inr ⟨rfl, Bs.setE hnm rfl (Er.meth rfl rfl rfl (rdM_part w) (by kernel_rfl) (by wtm_at "lo") (Ins.own (i := 0) rfl) rfl (.cons rfl (Ev.num rfl hr3 hz (by wtm_at "lo") hN1) .nil) ((OpX.part hr3 hz).er hN2))⟩
          | ok x =>
            obtain ⟨part, q2⟩ := x
            have hk2 := rdPart_ok hN2
            rw [hN2] at hR
            dsimp only at hR
            refine' turn_pre (L' := ⟨"part" :: "turn" :: _, tB part :: tN i :: _⟩) (ob' := [oD dx (rdF b q2), oLs l (vals.map tB), oBk w d vals, oIs it ot]) (fun o1 h => ?pre) ?_
            case pre =>
              refine Bs.set hnm (by wtm_at "ix") (by wtm_at "d") rfl (Ev.meth rfl rfl rfl (rdM_part w) (by kernel_rfl) (by wtm_at "lo") (Ins.own (i := 0) rfl) rfl (.cons rfl (Ev.num rfl hr3 hz (by wtm_at "lo") hN1) .nil) ((OpX.part hr3 hz).ok hN2)) ?_
              exact h
            by_cases c2 : part ∈ vals
            · rw [if_pos c2] at hR
              rw [← hR]
              exact .inr ⟨rfl, Bs.take rfl ((Tq.inBytes rfl (by wtm_at "lo") (by wtm_at "lo") (i := 2) rfl hd).yes c2) (Bs.raise hr2 hgn rfl)⟩
            rw [if_neg c2] at hR
            have hlen : vals.length + 1 ≤ q2 := Nat.le_trans (Nat.succ_le_succ h1) (Nat.le_trans hk.2.1 hk2.1)
            have hlen' : vals.length < 16000000 := Nat.lt_of_lt_of_le hlen (Nat.le_trans hk2.2 hz)
            refine .inl ⟨(q2, vals ++ [part]), ⟨by rw [List.length_append]; exact hlen, hk2.2, hR⟩, Bs.skip ((Tq.inBytes rfl (by wtm_at "lo") (by wtm_at "lo") (i := 2) rfl hd).no c2) ?_⟩
            refine Bs.setBytes (i := 2) rfl Ev.boo (by wtm_at "lo") (by wtm_at "lo") rfl (Nat.le_of_lt hlen') c2 ?_
            refine Bs.append (i := 1) (us := vals.map tB) rfl rfl rfl (by wtm_at "lo") rfl (Ev.cval (f := 416) (by wtm_at "ix") rfl (by kernel_rfl) rfl rfl (.cons rfl (by wtm_at "lo") .nil) (Op.same hr1)) rfl (by rw [List.length_map]; exact hlen') ?_
            rw [show vals.map tB ++ [tB part] = (vals ++ [part]).map tB by rw [List.map_append]; rfl]
            exact Bs.drop 2
      · obtain ⟨q, vals⟩ := x
        obtain ⟨h1, h2, hR⟩ := hI
        dsimp only at h1 hR
        rw [Nat.sub_self, rdVals] at hR
        rw [← hR]
        refine Bs.swap (Bs.frz hl (i := 1) (by wtm_at "ix") (by wtm_at "d") rfl (Bs.sub (.one (.drop .nil)) ?_))
        exact Bs.ret (by wtm_at "lo")
end
noncomputable def tI (i : Int) : Ty := ⟨fun _ v => ∃ t, v = .int i t, fun _ h => h⟩
section
variable {w : World} {c : Cx w} {L : Lc} {ob ob1 ob2 : List Ob} {dx : Addr} {b : List UInt8} {p m n : Nat} {t : Ty} {pos : Pos} {l r : PySem.Expr}
theorem Ev.subI (h1 : Ev c L ob l (tN m) ob1) (h2 : Ev c L ob1 r (tN n) ob2) : Ev c L ob (.BinOp l .Sub r pos) (tI (m - n)) ob2 := by
  refine Ev.bin h1 h2 ?_
  rintro Z vs mt s a b Q E S O ⟨ta, rfl⟩ ⟨tb, rfl⟩ q
  exact R_sub S fun tk s' S' => q.at S' O ⟨tk, rfl⟩
theorem Tq.ltI {i : Int} (hm : behindInMarks .Lt r = false) (h1 : Ev c L ob l (tI i) ob1) (h2 : Ev c L ob1 r (tN n) ob2) : Tq c L ob (.Compare l [.Lt] [r] pos) (i < n) ob2 := by
  refine Tq.cmp hm h1 h2 ?_
  rintro Z vs mt s a b Q E S O ⟨ta, rfl⟩ ⟨tb, rfl⟩ q
  exact lt_int q
theorem Op.sum_ (hr : Room c.A 1) (hz : b.length ≤ 16000000) : Op c [tB b] (fun us => PySem.call (.ref 243) us) ob (tB (sumB b)) ob := by
  refine' Op.def_ (f := 243) (obf := []) (ob' := []) ["octets", "low", "high", "octet"] ["bytes", "TRIE_SUM_BASE"] ["octets"] hr (m := 0) (by decide) ?ho ?k1 ?k2 ?k3 ?k4 ?k5 ?k6 rfl ?h
  wtm_at "fn"
  case h =>
    intro c hr hnm hgn
    refine Bs.set (t1 := tN 1) hnm (by wtm_at "ix") (by wtm_at "d") rfl Ev.nat ?_
    refine Bs.set (t1 := tN 0) hnm (by wtm_at "ix") (by wtm_at "d") rfl Ev.nat ?_
    refine Bs.for_ (σ := Unit) (I := fun _ _ => True) (Ls := fun i _ => ⟨["high", "low", "octets"], [tN (sums (b.take i)).2, tN (sums (b.take i)).1, tB b]⟩) (obs := fun _ _ => []) (x0 := ()) (by intro _; rfl)
      (Itr.bytes (by wtm_at "lo")) trivial (fun i _ it ot hi _ => ⟨_, Asn.name hnm (by wtm_at "ix") (by wtm_at "d"), .inl ⟨(), trivial, ?_⟩⟩) fun _ _ => ?_
    · have e : sums (b.take (i + 1)) = sumStep (sums (b.take i)) (b.getD i 0) := sums_take (by rw [List.getD_eq_getElem?_getD, List.getElem?_eq_getElem hi]; rfl)
      rw [e]
      refine Bs.upd (i := 2) hnm (by wtm_at "ix") (by wtm_at "ix") (by wtm_at "d") rfl (Ev.mod (Ev.add (by wtm_at "lo") (by wtm_at "lo")) ((Ev.glob hgn (by wtm_at "d") (by wtm_at "kis")).conv (t' := tN 65521) fun Z v e => ⟨_, e⟩) (by decide)) ?_
      exact Bs.upd (i := 1) hnm (by wtm_at "ix") (by wtm_at "ix") (by wtm_at "d") rfl (Ev.mod (Ev.add (by wtm_at "lo") (by wtm_at "lo")) ((Ev.glob hgn (by wtm_at "d") (by wtm_at "kis")).conv (t' := tN 65521) fun Z v e => ⟨_, e⟩) (by decide)) (Bs.drop 1)
    · rw [List.take_length]
      obtain ⟨l1, l2⟩ := sums_lt b
      refine Bs.ret ((Ev.bytesL (ns := [(sums b).2 >>> 8, (sums b).2 &&& 255, (sums b).1 >>> 8, (sums b).1 &&& 255]) hgn (by wtm_at "d") rfl (Ev.list (.cons rfl (Ev.shr (by wtm_at "lo") Ev.nat) (.cons rfl (Ev.band (by wtm_at "lo") Ev.nat) (.cons rfl (Ev.shr (by wtm_at "lo") Ev.nat) (.cons rfl (Ev.band (by wtm_at "lo") Ev.nat) .nil)))) (nb rfl)) ?_ (nb rfl)).cast ?_)
      · rw [shr8, shr8, and255, and255]
        intro n hn
        simp only [List.mem_cons, List.not_mem_nil, or_false] at hn
        omega
      · rw [shr8, shr8, and255, and255]; rfl
theorem OpX.bits (hr : Room c.A 3) : OpX c [tN m, tN n] (fun us => PySem.call (.ref 159) us) ob (ckBits m n) (fun _ : Unit => tNone) (fun _ => ob) := by
  refine' OpX.defE (f := 159) (obf := []) (obr := fun _ : Unit => []) ["low_bits", "mid_bits"] ["TRIE_MOST_BITS", "BadTable"] ["low_bits", "mid_bits"] hr (m := 2) (by decide) ?ho ?k1 ?k2 ?k3 ?k4 ?k5 ?k6 rfl ?h
  wtm_at "fn"
  case h =>
    intro c hr hnm hgn
    by_cases h : m < 1 ∨ n < 1 ∨ m + n > 16
    · rw [show ckBits m n = .error _ from if_pos h]
      exact Bs.take rfl ((Tq.or_ (Tq.ltN rfl (by wtm_at "lo") Ev.nat) .rfl' fun _ => Tq.or_ (Tq.ltN rfl (by wtm_at "lo") Ev.nat) .rfl' fun _ => Tq.or_ (Tq.gtN rfl (Ev.add (by wtm_at "lo") (by wtm_at "lo")) ((Ev.glob hgn (by wtm_at "d") (by wtm_at "kis")).conv (t' := tN 16) fun Z v e => ⟨_, e⟩)) .rfl' fun _ => Tq.orN).yes (h.imp id fun z => z.imp id .inl)) (Bs.raise hr hgn rfl)
    · rw [show ckBits m n = .ok _ from if_neg h]
      exact Bs.skip ((Tq.or_ (Tq.ltN rfl (by wtm_at "lo") Ev.nat) .rfl' fun _ => Tq.or_ (Tq.ltN rfl (by wtm_at "lo") Ev.nat) .rfl' fun _ => Tq.or_ (Tq.gtN rfl (Ev.add (by wtm_at "lo") (by wtm_at "lo")) ((Ev.glob hgn (by wtm_at "d") (by wtm_at "kis")).conv (t' := tN 16) fun Z v e => ⟨_, e⟩)) .rfl' fun _ => Tq.orN).no fun q => h (q.imp id fun z => z.imp id fun y => y.elim id False.elim)) Bs.end_
theorem OpX.chk (hr : Room c.A 3) (hz : b.length ≤ 16000000) : OpX c [tOwn 323 dx] (fun us => PySem.call (.ref 313) us) (oD dx (rdF b 0) :: ob) (rdSum b) (fun _ : List UInt8 => tNone) (fun b' => oD dx (rdF b' 4) :: ob) := by
  refine' OpX.defE (f := 313) (obf := [oD dx (rdF b 0)]) (obr := fun b' : List UInt8 => [oD dx (rdF b' 4)]) ["self", "end"] ["len", "TRIE_SUM_SIZE", "TRIE_MARK", "BadTable", "trie_sum"] ["self"] hr (m := 2) (by decide) ?ho ?k1 ?k2 ?k3 ?k4 ?k5 ?k6 rfl ?h
  wtm_at "fn"
  case h =>
    intro c hr hnm hgn
    have hr1 : Room c.A 1 := hr.le (by decide)
    have eM : ∀ L ob pos, Ev c.g L ob (.Name "TRIE_MARK" pos) (tB mark) ob := fun L ob pos => (Ev.glob hgn (by wtm_at "d") (by wtm_at "kis")).conv fun Z v e => ⟨_, e⟩
    have eS : ∀ L ob pos, Ev c.g L ob (.Name "TRIE_SUM_SIZE" pos) (tN 4) ob := fun L ob pos => (Ev.glob hgn (by wtm_at "d") (by wtm_at "kis")).conv fun Z v e => ⟨_, e⟩
    have hmz : mark.length ≤ 16000000 := nb rfl
    by_cases h4 : b.length < 4
    · rw [show rdSum b = .error "no table" from if_pos (.inl (by exact lin1 h4 (by wtm_at "a")))]
      refine Bs.set hnm (by wtm_at "ix") (by wtm_at "d") rfl (Ev.subI (Ev.lenB hgn (by wtm_at "d") rfl (Ev.rdO rfl (by wtm_at "lo") (i := 0) rfl) hz) (eS _ _ _)) ?_
      exact Bs.take rfl ((Tq.or_ (q := True) (Tq.ltI rfl (by wtm_at "lo") (Ev.lenB hgn (by wtm_at "d") rfl (eM _ _ _) hmz)) .rfl' fun hp => absurd (show (b.length : Int) - (4 : Nat) < (mark.length : Nat) by show (b.length : Int) - 4 < 4; omega) hp).yes (.inl (by show (b.length : Int) - 4 < 4; omega))) (Bs.raise hr hgn rfl)
    have h4' := Nat.le_of_not_lt h4
    refine Bs.set hnm (by wtm_at "ix") (by wtm_at "d") rfl (Ev.sub (Ev.lenB hgn (by wtm_at "d") rfl (Ev.rdO rfl (by wtm_at "lo") (i := 0) rfl) hz) (eS _ _ _) h4') ?_
    have hnz : b.length - 4 ≤ 16000000 := Nat.le_trans (Nat.sub_le _ _) hz
    by_cases h : b.length < 8 ∨ b.take 4 ≠ mark
    · rw [show rdSum b = .error _ from if_pos h]
      exact Bs.take rfl ((Tq.or_ (q := ¬ b.take 4 = mark ∨ False) (Tq.ltN rfl (by wtm_at "lo") (Ev.lenB hgn (by wtm_at "d") rfl (eM _ _ _) hmz)) .rfl' fun _ => Tq.or_ (Tq.neB rfl (Ev.bupto (Ev.rdO rfl (by wtm_at "lo") (i := 0) rfl) (Ev.lenB hgn (by wtm_at "d") rfl (eM _ _ _) hmz) hmz hz) (eM _ _ _)) .rfl' fun _ => Tq.orN).yes (h.imp (fun q => show b.length - 4 < 4 by exact lin2 q (Nat.le_of_eq (Nat.sub_add_cancel (show 4 ≤ b.length from lin1 (Nat.le_of_not_lt h4) (by wtm_at "a")))) (by wtm_at "a")) .inl)) (Bs.raise hr hgn rfl)
    refine Bs.skip ((Tq.or_ (q := ¬ b.take 4 = mark ∨ False) (Tq.ltN rfl (by wtm_at "lo") (Ev.lenB hgn (by wtm_at "d") rfl (eM _ _ _) hmz)) .rfl' fun _ => Tq.or_ (Tq.neB rfl (Ev.bupto (Ev.rdO rfl (by wtm_at "lo") (i := 0) rfl) (Ev.lenB hgn (by wtm_at "d") rfl (eM _ _ _) hmz) hmz hz) (eM _ _ _)) .rfl' fun _ => Tq.orN).no fun q => h (q.imp (fun (q : b.length - 4 < 4) => by exact lin2 q (Nat.le_of_eq (Nat.sub_add_cancel (show 4 ≤ b.length from lin1 (Nat.le_of_not_lt h4) (by wtm_at "a"))).symm) (by wtm_at "a")) fun z => z.elim id False.elim)) ?_
    by_cases h2 : b.drop (b.length - 4) ≠ sumB (b.take (b.length - 4))
    · rw [show rdSum b = .error _ from (if_neg h).trans (if_pos h2)]
      exact Bs.take rfl ((Tq.neB rfl (Ev.bfrom (Ev.rdO rfl (by wtm_at "lo") (i := 0) rfl) (by wtm_at "lo") hnz hz) (Ev.cdef (f := 243) hgn (by wtm_at "d") (by wtm_at "kis") (by kernel_rfl) rfl rfl (.cons rfl (Ev.bupto (Ev.rdO rfl (by wtm_at "lo") (i := 0) rfl) (by wtm_at "lo") hnz hz) .nil) (Op.sum_ hr1 (by rw [List.length_take]; exact lin2 hz (show min (b.length - 4) b.length ≤ b.length from Nat.min_le_right _ _) (by wtm_at "a"))))).yes h2) (Bs.raise hr hgn rfl)
    rw [show rdSum b = .ok _ from (if_neg h).trans (if_neg h2)]
    refine Bs.skip ((Tq.neB rfl (Ev.bfrom (Ev.rdO rfl (by wtm_at "lo") (i := 0) rfl) (by wtm_at "lo") hnz hz) (Ev.cdef (f := 243) hgn (by wtm_at "d") (by wtm_at "kis") (by kernel_rfl) rfl rfl (.cons rfl (Ev.bupto (Ev.rdO rfl (by wtm_at "lo") (i := 0) rfl) (by wtm_at "lo") hnz hz) .nil) (Op.sum_ hr1 (by rw [List.length_take]; exact lin2 hz (show min (b.length - 4) b.length ≤ b.length from Nat.min_le_right _ _) (by wtm_at "a"))))).no h2) ?_
    refine Bs.att (i := 0) rfl (rd_octets w) (Ev.bupto (Ev.rdO rfl (by wtm_at "lo") (i := 0) rfl) (by wtm_at "lo") hnz hz) (by wtm_at "lo") rfl .here (nb rfl) ?_
    exact Bs.att (i := 0) rfl (rd_at w) (Ev.lenB hgn (by wtm_at "d") rfl (eM _ _ _) hmz) (by wtm_at "lo") rfl (.there rfl .here) (nb rfl) Bs.end_
theorem drop_at {α : Type} {l : List α} {i : Nat} {x : α} (h : l[i]? = some x) : l.drop i = x :: l.drop (i + 1) := by
  obtain ⟨hi, e⟩ := List.getElem?_eq_some_iff.mp h
  rw [List.drop_eq_getElem_cons hi, e]
theorem OpX.order {rows : List (List (Nat × Nat))} (hr : Room c.A 3) : OpX c [tLs (rows.map tTRow), tN m] (fun us => PySem.call (.ref 250) us) ob (ckOrder rows m) (fun _ : Unit => tNone) (fun _ => ob) := by
  refine' OpX.defE (f := 250) (obf := []) (obr := fun _ : Unit => []) ["rows", "many", "named", "row", "times", "number"] ["BadTable"] ["rows", "many"] hr (m := 2) (by decide) ?ho ?k1 ?k2 ?k3 ?k4 ?k5 ?k6 rfl ?h
  wtm_at "fn"
  case h =>
    intro c hr hnm hgn
    refine Bs.set (t1 := tN 0) hnm (by wtm_at "ix") (by wtm_at "d") rfl Ev.nat ?_
    refine Bs.for_ (σ := Nat) (I := fun i k => ordRows (rows.drop i) k = ordRows rows 0) (Ls := fun _ k => ⟨["named", "rows", "many"], [tN k, tLs (rows.map tTRow), tN m]⟩) (obs := fun _ _ => []) (x0 := 0) (by intro _; rfl)
      (Itr.list (by wtm_at "lo")) rfl (fun i k it ot hi hR => ?_) fun k hR => ?_
    · obtain ⟨row, hrow⟩ : ∃ row, rows[i]? = some row := ⟨_, List.getElem?_eq_getElem hi⟩
      have hd : rows.drop i = row :: rows.drop (i + 1) := by
        rw [List.drop_eq_getElem_cons hi]
        rw [List.getElem?_eq_getElem hi] at hrow
        rw [Option.some.inj hrow]
      rw [hd, ordRows] at hR
      refine ⟨⟨["row", "named", "rows", "many"], [tTRow row, tN k, tLs (rows.map tTRow), tN m]⟩, by rw [hrow]; exact Asn.name hnm (by wtm_at "ix") (by wtm_at "d"), ?_⟩
      cases hU : ordRuns row k with
      | error wd =>
        rw [hU] at hR
        rw [show ckOrder rows m = .error wd by unfold ckOrder; rw [← hR]]
        refine .inr ⟨rfl, Bs.for_ (o := .err wd) (σ := Nat) (I := fun j k' => ordRuns (row.drop j) k' = .error wd) (Ls := fun _ k' => ⟨["row", "named", "rows", "many"], [tTRow row, tN k', tLs (rows.map tTRow), tN m]⟩) (obs := fun _ _ => [oIs it ot]) (x0 := k) (by intro _; rfl)
          (Itr.list (Ev.att rfl (row_runs w) (by wtm_at "lo") Ins.inn .here Hd.ls)) hU (fun j k' it2 ot2 hj hR' => ?_) fun k' hR' => ?_⟩
        · obtain ⟨x, hx⟩ : ∃ x, row[j]? = some x := ⟨_, List.getElem?_eq_getElem hj⟩
          rw [drop_at hx] at hR'
          refine ⟨⟨["number", "times", "row", "named", "rows", "many"], [tN x.2, tN x.1, tTRow row, tN k', tLs (rows.map tTRow), tN m]⟩, by rw [hx]; exact Asn.pair hnm (by wtm_at "ix") (by wtm_at "ix") (by wtm_at "d") (by wtm_at "d"), ?_⟩
          rw [ordRuns] at hR'
          by_cases h1 : x.2 > k'
          · rw [if_pos h1] at hR'
            cases hR'
            exact .inr ⟨rfl, Bs.take rfl ((Tq.gtN rfl (by wtm_at "lo") (by wtm_at "lo")).yes h1) (Bs.raise hr hgn rfl)⟩
          rw [if_neg h1] at hR'
          by_cases h2 : x.2 = k'
          · rw [if_pos h2] at hR'
            exact .inl ⟨k' + 1, hR', Bs.skip ((Tq.gtN rfl (by wtm_at "lo") (by wtm_at "lo")).no h1) (Bs.ifn (L1 := ⟨["number", "times", "row", "named", "rows", "many"], [tN x.2, tN x.1, tTRow row, tN (k' + 1), tLs (rows.map tTRow), tN m]⟩) (Tq.eqN rfl (by wtm_at "lo") (by wtm_at "lo")) (fun _ => Bs.upd (i := 3) hnm (by wtm_at "ix") (by wtm_at "ix") (by wtm_at "d") rfl (Ev.add (by wtm_at "lo") Ev.nat) Bs.nil) (fun q => absurd h2 q) (Bs.drop 2))⟩
          · rw [if_neg h2] at hR'
            exact .inl ⟨k', hR', Bs.skip ((Tq.gtN rfl (by wtm_at "lo") (by wtm_at "lo")).no h1) (Bs.ifn (L1 := ⟨["number", "times", "row", "named", "rows", "many"], [tN x.2, tN x.1, tTRow row, tN k', tLs (rows.map tTRow), tN m]⟩) (Tq.eqN rfl (by wtm_at "lo") (by wtm_at "lo")) (fun q => absurd q h2) (fun _ => Bs.nil) (Bs.drop 2))⟩
        · rw [List.drop_length, ordRuns] at hR'
          cases hR'
      | ok k2 =>
        rw [hU] at hR
        refine .inl ⟨k2, hR, Bs.for_ (σ := Nat) (I := fun j k' => ordRuns (row.drop j) k' = .ok k2) (Ls := fun _ k' => ⟨["row", "named", "rows", "many"], [tTRow row, tN k', tLs (rows.map tTRow), tN m]⟩) (obs := fun _ _ => [oIs it ot]) (x0 := k) (by intro _; rfl)
          (Itr.list (Ev.att rfl (row_runs w) (by wtm_at "lo") Ins.inn .here Hd.ls)) hU (fun j k' it2 ot2 hj hR' => ?_) fun k' hR' => ?_⟩
        · obtain ⟨x, hx⟩ : ∃ x, row[j]? = some x := ⟨_, List.getElem?_eq_getElem hj⟩
          rw [drop_at hx] at hR'
          refine ⟨⟨["number", "times", "row", "named", "rows", "many"], [tN x.2, tN x.1, tTRow row, tN k', tLs (rows.map tTRow), tN m]⟩, by rw [hx]; exact Asn.pair hnm (by wtm_at "ix") (by wtm_at "ix") (by wtm_at "d") (by wtm_at "d"), ?_⟩
          rw [ordRuns] at hR'
          by_cases h1 : x.2 > k'
          · rw [if_pos h1] at hR'
            cases hR'
          rw [if_neg h1] at hR'
          by_cases h2 : x.2 = k'
          · rw [if_pos h2] at hR'
            exact .inl ⟨k' + 1, hR', Bs.skip ((Tq.gtN rfl (by wtm_at "lo") (by wtm_at "lo")).no h1) (Bs.ifn (L1 := ⟨["number", "times", "row", "named", "rows", "many"], [tN x.2, tN x.1, tTRow row, tN (k' + 1), tLs (rows.map tTRow), tN m]⟩) (Tq.eqN rfl (by wtm_at "lo") (by wtm_at "lo")) (fun _ => Bs.upd (i := 3) hnm (by wtm_at "ix") (by wtm_at "ix") (by wtm_at "d") rfl (Ev.add (by wtm_at "lo") Ev.nat) Bs.nil) (fun q => absurd h2 q) (Bs.drop 2))⟩
          · rw [if_neg h2] at hR'
            exact .inl ⟨k', hR', Bs.skip ((Tq.gtN rfl (by wtm_at "lo") (by wtm_at "lo")).no h1) (Bs.ifn (L1 := ⟨["number", "times", "row", "named", "rows", "many"], [tN x.2, tN x.1, tTRow row, tN k', tLs (rows.map tTRow), tN m]⟩) (Tq.eqN rfl (by wtm_at "lo") (by wtm_at "lo")) (fun q => absurd q h2) (fun _ => Bs.nil) (Bs.drop 2))⟩
        · rw [List.drop_length, ordRuns] at hR'
          cases hR'
          exact Bs.drop 1
    · rw [List.drop_length, ordRows] at hR
      by_cases h : k < m
      · rw [show ckOrder rows m = .error "something that nothing names" by unfold ckOrder; rw [← hR]; exact if_pos h]
        exact Bs.take rfl ((Tq.ltN rfl (by wtm_at "lo") (by wtm_at "lo")).yes h) (Bs.raise hr hgn rfl)
      · rw [show ckOrder rows m = .ok () by unfold ckOrder; rw [← hR]; exact if_neg h]
        exact Bs.skip ((Tq.ltN rfl (by wtm_at "lo") (by wtm_at "lo")).no h) Bs.end_
end
noncomputable def trieF (T : Tab) : List (Str × Ty) := [("low_bits", tN T.lb), ("mid_bits", tN T.mb), ("values", tBs T.vals), ("lows", tLs (T.lows.map tTRow)), ("mids", tLs (T.mids.map tTRow)), ("top", tTRow T.top)]
noncomputable def tTrie (T : Tab) : Ty := tIn 218 (trieF T)
theorem Hd.trow {ps : List (Nat × Nat)} : Hd (tTRow ps) := Hd.inn
section
variable {w : World} {c : Cx w} {ob : List Ob} {dx : Addr} {b : List UInt8}
theorem Ev.lenM {c : Cb w} {L : Lc} {ob1 : List Ob} {e : PySem.Expr} {xp pos : Pos} {gn : List Str} {α : Type} {f : α → Ty} {xs : List α} (hgn : c.G.gn = gn) (hc : gn.contains "len" = true) (he : starEach [e] c.env = (false, eval e c.env) :: starEach [] c.env) (h : Ev c.g L ob e (tLs (xs.map f)) ob1) (hz : xs.length ≤ 16000000) : Ev c.g L ob (.Call (.Name "len" xp) [e] [] pos) (tN xs.length) ob1 :=
  (Ev.len hgn hc he h (by rw [List.length_map]; exact hz)).cast (congrArg tN (List.length_map _))
theorem Op.trie {T : Tab} (hr : Room c.A 2) : Op c [tN T.lb, tN T.mb, tBs T.vals, tLs (T.lows.map tTRow), tLs (T.mids.map tTRow), tTRow T.top] (fun us => PySem.call (.ref 218) us) ob (tTrie T) ob := by
  refine' Op.newI (s0 := "self") ["self", "low_bits", "mid_bits", "values", "lows", "mids", "top"] [] ["low_bits", "mid_bits", "values", "lows", "mids", "top"] (trie_new w) hr (m := 0) (Nat.le_refl _) ?ho ?k1 ?k2 ?k3 ?k4 ?k5 ?k6 rfl ?h
  wtm_at "fn"
  case h =>
    intro c dx hr hnm hgn
    refine Bs.att (i := 0) (fs := []) rfl (trie_low_bits w) (by wtm_at "lo") (by wtm_at "lo") rfl .nil (nb rfl) ?_
    refine Bs.att (i := 0) rfl (trie_mid_bits w) (by wtm_at "lo") (by wtm_at "lo") rfl (.there rfl .nil) (nb rfl) ?_
    refine Bs.att (i := 0) rfl (trie_values w) (by wtm_at "lo") (by wtm_at "lo") rfl (.there rfl (.there rfl .nil)) (nb rfl) ?_
    refine Bs.att (i := 0) rfl (trie_lows w) (by wtm_at "lo") (by wtm_at "lo") rfl (.there rfl (.there rfl (.there rfl .nil))) (nb rfl) ?_
    refine Bs.att (i := 0) rfl (trie_mids w) (by wtm_at "lo") (by wtm_at "lo") rfl (.there rfl (.there rfl (.there rfl (.there rfl .nil)))) (nb rfl) ?_
    refine Bs.att (i := 0) rfl (trie_top w) (by wtm_at "lo") (by wtm_at "lo") rfl (.there rfl (.there rfl (.there rfl (.there rfl (.there rfl .nil))))) (nb rfl) ?_
    exact Bs.end_
theorem new_reader (hr : Room c.A 2) {Z : Zt} {vs : List (Option Value)} {mt : List (Addr × Obj)} {s : Shared} {tk : Tok} {Q E : Value → Shared → Prop} (S : St c.G Z vs mt s)
    (q : ∀ x dx od Z' s', (∀ a o, Z a o → Z' a o) → dx ∉ c.G.ft → Z' x (instObj 323 dx) → (oD dx (rdF b 0)).r Z' od → St c.G Z' vs ((dx, od) :: mt) s' → Q (.ref x) s') : wpAny (model P w) c.A (PySem.call (.ref 323) [.bytes b.toArray tk]) Q E s := by
  refine' Op.newO (s0 := "self") (ts := [tB b]) ["self", "octets"] [] ["octets"] (rd_new w) hr (m := 0) (Nat.le_refl _) ?ho ?k1 ?k2 ?k3 ?k4 ?k5 ?k6 rfl ?h S (.cons ⟨tk, rfl⟩ .nil) q
  wtm_at "fn"
  case h =>
    intro c dx hr hnm hgn
    refine Bs.att (i := 0) (fs := []) rfl (rd_octets w) (by wtm_at "lo") (by wtm_at "lo") rfl .nil (nb rfl) ?_
    refine Bs.att (i := 0) rfl (rd_at w) Ev.nat (by wtm_at "lo") rfl (.there rfl .nil) (nb rfl) ?_
    exact Bs.end_
set_option maxHeartbeats 1000000 in
theorem OpX.table {o : List UInt8} (hr : Room c.A 8) (hz : o.length ≤ 16000000) : OpX c [tOwn 323 dx, tVal (.ref 416)] (fun us => PySem.call (.ref 320) us) (oD dx (rdF o 0) :: ob) (rdTable o) (fun T : Tab => tTrie T) (fun _ => ob) := by
  refine' OpX.def_ (f := 320) (obf := [oD dx (rdF o 0)]) (obr := fun _ : Tab => []) ["self", "value_of", "low_bits", "mid_bits", "values", "places", "lows", "mids", "top"] ["trie_check_bits", "CODES", "len", "BadTable", "trie_check_order", "CodeTrie"] ["self", "value_of"] hr (m := 7) (by decide) ?ho ?k1 ?k2 ?k3 ?k4 ?k5 ?k6 rfl ?h
  wtm_at "fn"
  case h =>
    intro c hr hnm hgn
    have hr2 : Room c.A 2 := hr.le (by decide)
    have hr3 : Room c.A 3 := hr.le (by decide)
    have hr5 : Room c.A 5 := hr.le (by decide)
    have hr6 : Room c.A 6 := hr.le (by decide)
    have eC : ∀ L ob pos, Ev c.g L ob (.Name "CODES" pos) (tN 1114112) ob := fun L ob pos => (Ev.glob hgn (by wtm_at "d") (by wtm_at "kis")).conv fun Z v e => ⟨_, e⟩
    cases h1 : rdSum o with
    | error wd =>
      rw [show rdTable o = .error wd by unfold rdTable; rw [h1]]
      exact Bs.exprE rfl (Er.meth0 rfl (rdM_check_sum w) (by kernel_rfl) (by wtm_at "lo") (Ins.own (i := 0) rfl) rfl ((OpX.chk hr3 hz).er h1))
    | ok b =>
    rw [show rdTable o = rdTab b by unfold rdTable; rw [h1]]
    have hb := rdSum_ok h1
    have hz := Nat.le_trans hb.1 hz
    refine Bs.expr c.act.quiet rfl (Ev.meth0 rfl (rdM_check_sum w) (by kernel_rfl) (by wtm_at "lo") (Ins.own (i := 0) rfl) rfl ((OpX.chk hr3 (by assumption)).ok h1)) ?_
    cases h2 : rdNum b 4 with
    | error wd =>
      rw [show rdTab b = .error wd by unfold rdTab; rw [h2]]
      exact Bs.setE hnm rfl (Er.num rfl hr3 hz (by wtm_at "lo") h2)
    | ok x =>
    obtain ⟨lb, p1⟩ := x
    refine Bs.set hnm (by wtm_at "ix") (by wtm_at "d") rfl (Ev.num rfl hr3 hz (by wtm_at "lo") h2) ?_
    cases h3 : rdNum b p1 with
    | error wd =>
      rw [show rdTab b = .error wd by unfold rdTab; rw [h2]; dsimp only; rw [h3]]
      exact Bs.setE hnm rfl (Er.num rfl hr3 hz (by wtm_at "lo") h3)
    | ok x =>
    obtain ⟨mb, p2⟩ := x
    rw [show rdTab b = rdTab2 b lb mb p2 by unfold rdTab; rw [h2]; dsimp only; rw [h3]]
    refine Bs.set hnm (by wtm_at "ix") (by wtm_at "d") rfl (Ev.num rfl hr3 hz (by wtm_at "lo") h3) ?_
    cases h4 : ckBits lb mb with
    | error wd =>
      rw [show rdTab2 b lb mb p2 = .error wd by unfold rdTab2; rw [h4]]
      exact Bs.exprE rfl (Er.cdef (f := 159) hgn (by wtm_at "d") (by wtm_at "kis") (by kernel_rfl) rfl rfl (.cons rfl (by wtm_at "lo") (.cons rfl (by wtm_at "lo") .nil)) ((OpX.bits hr3).er h4))
    | ok x =>
    have hk := ckBits_ok h4
    refine Bs.expr c.act.quiet rfl (Ev.cdef (f := 159) hgn (by wtm_at "d") (by wtm_at "kis") (by kernel_rfl) rfl rfl (.cons rfl (by wtm_at "lo") (.cons rfl (by wtm_at "lo") .nil)) ((OpX.bits hr3).ok h4)) ?_
    cases h5 : rdValues b p2 with
    | error wd =>
      rw [show rdTab2 b lb mb p2 = .error wd by unfold rdTab2; rw [h4]; dsimp only; rw [h5]]
      exact Bs.setE hnm rfl (Er.meth rfl rfl rfl (rdM_values w) (by kernel_rfl) (by wtm_at "lo") (Ins.own (i := 0) rfl) rfl (.cons rfl (by wtm_at "lo") .nil) ((OpX.values hr6 hz).er h5))
    | ok x =>
    obtain ⟨vals, p3⟩ := x
    have hv := rdValues_ok h5
    rw [show rdTab2 b lb mb p2 = rdTab3 b lb mb vals p3 by unfold rdTab2; rw [h4]; dsimp only; rw [h5]]
    refine Bs.set hnm (by wtm_at "ix") (by wtm_at "d") rfl (Ev.meth rfl rfl rfl (rdM_values w) (by kernel_rfl) (by wtm_at "lo") (Ins.own (i := 0) rfl) rfl (.cons rfl (by wtm_at "lo") .nil) ((OpX.values hr6 hz).ok h5)) ?_
    refine Bs.set hnm (by wtm_at "ix") (by wtm_at "d") rfl (Ev.shr (eC _ _ _) (Ev.add (by wtm_at "lo") (by wtm_at "lo"))) ?_
    have hvz : vals.length ≤ 16000000 := Nat.le_trans hv.1 (Nat.le_trans hv.2.2 hz)
    have z1 : 1 <<< lb ≤ 1000000 := shl_le (by exact lin2 hk.2.1 hk.2.2 (by wtm_at "a"))
    have z2 : 1114112 >>> lb ≤ 1000000 := shr_le hk.1
    have z3 : 1 <<< mb ≤ 1000000 := shl_le (by exact lin2 hk.1 hk.2.2 (by wtm_at "a"))
    have z4 : 1114112 >>> (lb + mb) ≤ 1000000 := shr_le (by exact lin1 hk.1 (by wtm_at "a"))
    cases h6 : rdStage b (1 <<< lb) vals.length (1114112 >>> lb) p3 with
    | error wd =>
      rw [show rdTab3 b lb mb vals p3 = .error wd by unfold rdTab3; rw [h6]]
      exact Bs.setE hnm rfl (Er.meth rfl rfl rfl (rdM_rows w) (by kernel_rfl) (by wtm_at "lo") (Ins.own (i := 0) rfl) rfl (.cons rfl (Ev.shl Ev.nat (by wtm_at "lo") (by exact lin1 hk.2.2 (by wtm_at "a")) (by decide)) (.cons rfl (Ev.lenM (f := tB) hgn (by wtm_at "d") rfl (by wtm_at "lo") hvz) (.cons rfl (Ev.shr (eC _ _ _) (by wtm_at "lo")) .nil))) ((OpX.rows hr6 hz z1 z2).er h6))
    | ok x =>
    obtain ⟨lows, p4⟩ := x
    have hl := (rdStage_ok h6).1
    have hlz : lows.length ≤ 16000000 := Nat.le_trans hl (Nat.le_trans z2 (by decide))
    refine Bs.set hnm (by wtm_at "ix") (by wtm_at "d") rfl (Ev.meth rfl rfl rfl (rdM_rows w) (by kernel_rfl) (by wtm_at "lo") (Ins.own (i := 0) rfl) rfl (.cons rfl (Ev.shl Ev.nat (by wtm_at "lo") (by exact lin1 hk.2.2 (by wtm_at "a")) (by decide)) (.cons rfl (Ev.lenM (f := tB) hgn (by wtm_at "d") rfl (by wtm_at "lo") hvz) (.cons rfl (Ev.shr (eC _ _ _) (by wtm_at "lo")) .nil))) ((OpX.rows hr6 hz z1 z2).ok h6)) ?_
    cases h7 : rdStage b (1 <<< mb) lows.length (1114112 >>> (lb + mb)) p4 with
    | error wd =>
      rw [show rdTab3 b lb mb vals p3 = .error wd by unfold rdTab3; rw [h6]; dsimp only; rw [h7]]
      exact Bs.setE hnm rfl (Er.meth rfl rfl rfl (rdM_rows w) (by kernel_rfl) (by wtm_at "lo") (Ins.own (i := 0) rfl) rfl (.cons rfl (Ev.shl Ev.nat (by wtm_at "lo") (by exact lin1 hk.2.2 (by wtm_at "a")) (by decide)) (.cons rfl (Ev.lenM (f := tTRow) hgn (by wtm_at "d") rfl (by wtm_at "lo") hlz) (.cons rfl (by wtm_at "lo") .nil))) ((OpX.rows hr6 hz z3 z4).er h7))
    | ok x =>
    obtain ⟨mids, p5⟩ := x
    have hm := (rdStage_ok h7).1
    have hmz : mids.length ≤ 16000000 := Nat.le_trans hm (Nat.le_trans z4 (by decide))
    refine Bs.set hnm (by wtm_at "ix") (by wtm_at "d") rfl (Ev.meth rfl rfl rfl (rdM_rows w) (by kernel_rfl) (by wtm_at "lo") (Ins.own (i := 0) rfl) rfl (.cons rfl (Ev.shl Ev.nat (by wtm_at "lo") (by exact lin1 hk.2.2 (by wtm_at "a")) (by decide)) (.cons rfl (Ev.lenM (f := tTRow) hgn (by wtm_at "d") rfl (by wtm_at "lo") hlz) (.cons rfl (by wtm_at "lo") .nil))) ((OpX.rows hr6 hz z3 z4).ok h7)) ?_
    cases h8 : rdRow b (1114112 >>> (lb + mb)) mids.length p5 with
    | error wd =>
      rw [show rdTab3 b lb mb vals p3 = .error wd by unfold rdTab3; rw [h6]; dsimp only; rw [h7]; dsimp only; rw [h8]]
      exact Bs.setE hnm rfl (Er.meth rfl rfl rfl (rdM_row w) (by kernel_rfl) (by wtm_at "lo") (Ins.own (i := 0) rfl) rfl (.cons rfl (by wtm_at "lo") (.cons rfl (Ev.lenM (f := tTRow) hgn (by wtm_at "d") rfl (by wtm_at "lo") hmz) .nil)) ((OpX.row hr5 hz z4).er h8))
    | ok x =>
    obtain ⟨top, p6⟩ := x
    refine Bs.set hnm (by wtm_at "ix") (by wtm_at "d") rfl (Ev.meth rfl rfl rfl (rdM_row w) (by kernel_rfl) (by wtm_at "lo") (Ins.own (i := 0) rfl) rfl (.cons rfl (by wtm_at "lo") (.cons rfl (Ev.lenM (f := tTRow) hgn (by wtm_at "d") rfl (by wtm_at "lo") hmz) .nil)) ((OpX.row hr5 hz z4).ok h8)) ?_
    have e3 : rdTab3 b lb mb vals p3 = if p6 < b.length then .error "octets are left" else ckAll ⟨lb, mb, vals, lows, mids, top⟩ := by unfold rdTab3; rw [h6]; dsimp only; rw [h7]; dsimp only; rw [h8]
    rw [e3]
    by_cases c1 : p6 < b.length
    · rw [if_pos c1]
      exact Bs.take rfl ((Tq.ltN rfl (Ev.rdAt rfl (by wtm_at "lo") (i := 0) rfl) (Ev.lenB hgn (by wtm_at "d") rfl (Ev.rdO rfl (by wtm_at "lo") (i := 0) rfl) hz)).yes c1) (Bs.raise hr2 hgn rfl)
    rw [if_neg c1]
    refine Bs.skip ((Tq.ltN rfl (Ev.rdAt rfl (by wtm_at "lo") (i := 0) rfl) (Ev.lenB hgn (by wtm_at "d") rfl (Ev.rdO rfl (by wtm_at "lo") (i := 0) rfl) hz)).no c1) ?_
    refine Bs.sub (.drop .nil) ?_
    clear e3 h1 h2 h3 h4 h5 h6 h7 h8
    cases k1 : ckOrder [top] mids.length with
    | error wd =>
      rw [show ckAll ⟨lb, mb, vals, lows, mids, top⟩ = .error wd by unfold ckAll; rw [k1]]
      exact Bs.exprE rfl (Er.cdef (f := 250) hgn (by wtm_at "d") (by wtm_at "kis") (by kernel_rfl) rfl rfl (.cons rfl (Ev.list (.cons rfl (by wtm_at "lo") .nil) (nb rfl)) (.cons rfl (Ev.lenM (f := tTRow) hgn (by wtm_at "d") rfl (by wtm_at "lo") hmz) .nil)) ((OpX.order (rows := [top]) hr3).er k1))
    | ok x =>
    refine Bs.expr c.act.quiet rfl (Ev.cdef (f := 250) hgn (by wtm_at "d") (by wtm_at "kis") (by kernel_rfl) rfl rfl (.cons rfl (Ev.list (.cons rfl (by wtm_at "lo") .nil) (nb rfl)) (.cons rfl (Ev.lenM (f := tTRow) hgn (by wtm_at "d") rfl (by wtm_at "lo") hmz) .nil)) ((OpX.order (rows := [top]) hr3).ok k1)) ?_
    cases k2 : ckOrder mids lows.length with
    | error wd =>
      rw [show ckAll ⟨lb, mb, vals, lows, mids, top⟩ = .error wd by unfold ckAll; rw [k1]; dsimp only; rw [k2]]
      exact Bs.exprE rfl (Er.cdef (f := 250) hgn (by wtm_at "d") (by wtm_at "kis") (by kernel_rfl) rfl rfl (.cons rfl (by wtm_at "lo") (.cons rfl (Ev.lenM (f := tTRow) hgn (by wtm_at "d") rfl (by wtm_at "lo") hlz) .nil)) ((OpX.order hr3).er k2))
    | ok x =>
    refine Bs.expr c.act.quiet rfl (Ev.cdef (f := 250) hgn (by wtm_at "d") (by wtm_at "kis") (by kernel_rfl) rfl rfl (.cons rfl (by wtm_at "lo") (.cons rfl (Ev.lenM (f := tTRow) hgn (by wtm_at "d") rfl (by wtm_at "lo") hlz) .nil)) ((OpX.order hr3).ok k2)) ?_
    cases k3 : ckOrder lows vals.length with
    | error wd =>
      rw [show ckAll ⟨lb, mb, vals, lows, mids, top⟩ = .error wd by unfold ckAll; rw [k1]; dsimp only; rw [k2]; dsimp only; rw [k3]]
      exact Bs.exprE rfl (Er.cdef (f := 250) hgn (by wtm_at "d") (by wtm_at "kis") (by kernel_rfl) rfl rfl (.cons rfl (by wtm_at "lo") (.cons rfl (Ev.lenM (f := tB) hgn (by wtm_at "d") rfl (by wtm_at "lo") hvz) .nil)) ((OpX.order hr3).er k3))
    | ok x =>
    refine Bs.expr c.act.quiet rfl (Ev.cdef (f := 250) hgn (by wtm_at "d") (by wtm_at "kis") (by kernel_rfl) rfl rfl (.cons rfl (by wtm_at "lo") (.cons rfl (Ev.lenM (f := tB) hgn (by wtm_at "d") rfl (by wtm_at "lo") hvz) .nil)) ((OpX.order hr3).ok k3)) ?_
    rw [show ckAll ⟨lb, mb, vals, lows, mids, top⟩ = .ok ⟨lb, mb, vals, lows, mids, top⟩ by unfold ckAll; rw [k1]; dsimp only; rw [k2]; dsimp only; rw [k3]]
    exact Bs.ret (Ev.cdef (f := 218) hgn (by wtm_at "d") (by wtm_at "kis") (by kernel_rfl) rfl rfl (.cons rfl (by wtm_at "lo") (.cons rfl (by wtm_at "lo") (.cons rfl (by wtm_at "lo") (.cons rfl (by wtm_at "lo") (.cons rfl (by wtm_at "lo") (.cons rfl (by wtm_at "lo") .nil)))))) (Op.trie (T := ⟨lb, mb, vals, lows, mids, top⟩) hr2))
end
section
variable {w : World} {A : Around} {env : Env} {G : Gh} {outer : List Env} {Z : Zt} {vs : List (Option Value)} {mt : List (Addr × Obj)} {s : Shared} {E Q : Value → Shared → Prop} {R : Result → Shared → Prop}
theorem fn_heard {b : List UInt8} {t : Tok} (a : Act w A env G outer) (S : St G Z vs mt s) (hr : Room A 10) (hz : b.length ≤ 16000000)
    (h : ∀ v Z' s', (match rdTable b with | .ok T => (tTrie T).r Z' v | .error word => ∃ t, v = .str word t) → (∀ a o, Z a o → Z' a o) → St G Z' vs mt s' → Q v s') : wpAny (model P w) A (call (.ref 423) [.bytes b.toArray t]) Q E s := by
  refine' call_def (f := 423) (foot := []) (rest := mt) (nm := ["octets", "found", "e"]) (gn := ["TrieReader", "_law_same", "BadTable"]) (binds := [("octets", .bytes b.toArray t)]) (vs₁ := [some (.bytes b.toArray t), none, none]) (X := fun _ _ _ _ => False) a S ?hd ?ho ?k1 ?k2 ?k3 ?k4 ?k5 ?k6 ?h (fun _ _ _ _ _ _ _ h => h.elim)
  wtm_at "call"
  case hd => exact hr.dep
  case h =>
    intro A' env' G' s' dA uA hG hnm hgn a' S'
    have hr2 : Room A' 2 := hr.sub dA uA (by decide)
    have hr8 : Room A' 8 := hr.sub dA uA (by decide)
    wtm_at "x"
    repeat wtm_at "v"
    wtm_at "set"
    rename_i s1 S1
    refine X_try a' hnm hgn rfl rfl ?_
    wtm_at "x"
    repeat wtm_at "v"
    refine (KDef.mk S1 ?_)
    refine new_reader (c := (⟨A', env', G', _, a'⟩ : Cb w).g) hr2 S1 fun x dx od Z3 s3 z3 hfr hx hod S3 => ?_
    have hod' := hod
    obtain ⟨kvs, hD3, hF⟩ := hod
    refine A_meth (rdM_table w) a' S3 hx (S3.has .here) hD3 (hF.none rfl) ?_
    refine V_cdef a' S3 (by kernel_rfl) rfl rfl ?_
    repeat wtm_at "v"
    refine (KDef.mk S3 ?_)
    refine OpX.table (c := (⟨A', env', G', _, a'⟩ : Cb w).g) (ob := []) hr8 hz _ _ _ _ [_, _] _ _ S3 (.cons (b := oD dx (rdF b 0)) hod' .nil) (.cons ⟨x, rfl, hx⟩ (.cons rfl .nil)) (fun T hN v Z4 mt4 s4 z4 S4 O4 r4 => ?_) (fun word hN e s' T => ?_)
    · refine KSet.mk S4 (by wtm_at "put") fun s5 S5 => ?_
      refine X_nil ⟨rfl, ?_⟩
      wtm_at "x"
      repeat wtm_at "v"
      exact (Back.mk S5.nil (fun S => h _ _ _ (by rw [hN]; exact r4) (fun a o q => z4 _ _ (z3 _ _ q)) S))
    · refine ⟨_, word, _, _, _, T.imp fun o tl f => f.any, fun x => (by wtm_at "put"), fun x => (by wtm_at "at"), fun x t => (by wtm_at "put"), fun x t v => .there (.there .here), fun Z' x t v s6 S6 => ?_⟩
      wtm_at "x"
      repeat wtm_at "v"
      exact (Back.mk S6 (fun S => h _ _ _ (by rw [hN]; exact ⟨_, rfl⟩) (fun a o q => S6.zs a o (by rw [hG]; exact q)) S))
end
theorem or128 : ∀ m : Nat, m < 128 → m ||| 128 = 128 + m := by decide
theorem piece (n : Nat) : (n &&& 127) ||| 128 = 128 + n % 128 := by
  have e : n &&& 127 = n % 128 := Nat.and_two_pow_sub_one_eq_mod n 7
  rw [e]
  exact or128 _ (Nat.mod_lt _ (by decide))
noncomputable def oBa (d : Addr) (b : List UInt8) : Ob := ⟨d, fun _ o => o = Bo b, fun _ h => h⟩
section
variable {w : World} {c : Cb w} {L L' L1 : Lc} {ob ob0 ob1 ob2 ob' obf : List Ob} {t t' t0 t1 t2 t3 : Ty} {pos p' apos xp : Pos} {ns nm gn names : List Str} {ts us : List Ty} {e e0 a1 e2 : PySem.Expr} {es : List PySem.Expr} {word name x : Str} {C f d : Addr} {i j n m k : Nat} {pl : Sem Bool} {o : Out} {b y : List UInt8}
variable {obj : Obj} {fd : FuncData} {body rest : List Stmt}
theorem Itr.eqv {iter : PySem.Expr} {uf : Nat → Ty} (h : Itr c L ob iter n uf ob1) (h2 : ob1 = ob2) : Itr c L ob iter n uf ob2 := h2 ▸ h
theorem OpG.def_ (nm gn names : List Str) (hr : Room c.A n) (hm : m + 1 ≤ n)
    (ho : (KK w).lookup f = some obj) (k1 : obj.data = .func fd) (k2 : fd.body = .stmts body) (k3 : codeIn (KK w) fd.code fd.qualname = true)
    (k4 : ∀ us : List Value, us.length = names.length → bindArgs fd ⟨us, []⟩ = pure (names.zip us)) (k5 : scopeOk fd (names.map fun x => (x, Value.none)) nm gn = true) (nd : names.Nodup) (hl : ts.length = names.length)
    (h : ∀ c' : Cb w, Room c'.A m → c'.G.nm = nm → c'.G.gn = gn → Bw c' ⟨names, ts⟩ obf body (.ret t ob')) : OpG c ts (fun us => PySem.call (.ref f) us) (obf ++ ob) t (ob' ++ ob) := by
  intro Z vs mt s us Q S O T q
  obtain ⟨m1, m2, rfl, O1, O2⟩ := O.split
  have hlen := T.length.trans hl
  refine WG.call (callG c.act S hr.dep ho k1 k2 k3 (k4 us hlen) ((scope_zip hlen).trans k5) rfl (fun A' env' G' s' dA uA hG hnm hgn a' S' => ?_))
  exact h ⟨A', env', G', _, a'⟩ (hr.sub dA uA hm) hnm hgn Z _ m1 s' _ ⟨S', (by show Lc.Ok _ (look G'.nm) _ _; rw [hnm]; exact Lc.Ok.args nd (fun x hx => scope_mem k5 hx) hl T), O1⟩
    fun v Z' vs' mt' s'' z S2 O3 r2 => Back.mk S2 fun S3 => q v Z' (mt' ++ m2) s'' z S3 (O3.append (O2.up z)) r2
theorem OpG.defE (nm gn names : List Str) (hr : Room c.A n) (hm : m + 1 ≤ n)
    (ho : (KK w).lookup f = some obj) (k1 : obj.data = .func fd) (k2 : fd.body = .stmts body) (k3 : codeIn (KK w) fd.code fd.qualname = true)
    (k4 : ∀ us : List Value, us.length = names.length → bindArgs fd ⟨us, []⟩ = pure (names.zip us)) (k5 : scopeOk fd (names.map fun x => (x, Value.none)) nm gn = true) (nd : names.Nodup) (hl : ts.length = names.length)
    (h : ∀ c' : Cb w, Room c'.A m → c'.G.nm = nm → c'.G.gn = gn → Bw c' ⟨names, ts⟩ obf body (.end_ ob')) : OpG c ts (fun us => PySem.call (.ref f) us) (obf ++ ob) tNone (ob' ++ ob) := by
  intro Z vs mt s us Q S O T q
  obtain ⟨m1, m2, rfl, O1, O2⟩ := O.split
  have hlen := T.length.trans hl
  refine WG.call (callG c.act S hr.dep ho k1 k2 k3 (k4 us hlen) ((scope_zip hlen).trans k5) rfl (fun A' env' G' s' dA uA hG hnm hgn a' S' => ?_))
  exact h ⟨A', env', G', _, a'⟩ (hr.sub dA uA hm) hnm hgn Z _ m1 s' _ ⟨S', (by show Lc.Ok _ (look G'.nm) _ _; rw [hnm]; exact Lc.Ok.args nd (fun x hx => scope_mem k5 hx) hl T), O1⟩
    fun i _ Z' vs' mt' s'' z p => Back.mk p.S fun S3 => q .none Z' (mt' ++ m2) s'' z S3 (p.o.append (O2.up z)) rfl
theorem Bw.end_ : Bw c L ob [] (.end_ ob) := fun Z vs mt s K p q => GX_nil (q L trivial Z vs mt s (fun _ _ k => k) p)
theorem Bw.baAppend (hs : swapsWith (.Call (.Attribute e0 "append" apos) [e] [] p') none pos.line c.env = pure false)
    (he : eval (.Call (.Attribute e0 "append" apos) [e] [] p') c.env = (do let ov ← eval e0 c.env; standAt apos.atName; let (f, first) ← holding [ov] (getMethod ov "append" pl); callWith p' f first (backTo p' (starEach [e] c.env)) (backToKw p' (keywordEach [] c.env))))
    (hx : starEach [e] c.env = (false, eval e c.env) :: starEach [] c.env) (h1 : Ev c.g L ob e0 (tRef d) ob0) (hb : ob0[i]? = some (oBa d b)) (h2 : Ev c.g L ob0 e (tN n) ob0) (hn : n < 256) (hz : b.length ≤ 15999999) (h3 : Bw c L (ob0.set i (oBa d (b ++ [n.toUInt8]))) rest o) :
    Bw c L ob (.Expr (.Call (.Attribute e0 "append" apos) [e] [] p') pos :: rest) o := by
  intro Z vs mt s K p q
  refine GX_expr c.act.quiet hs (GV_mcall he (h1 Z vs mt s _ _ p ?_))
  rintro v Z1 mt1 s1 z1 S1 O1 rfl
  obtain ⟨o1, rfl, hm, _⟩ := O1.pick hb
  refine GM_append (S1.has hm) (GV_mach (by intro _ e; cases e) hx rfl (EvL.cons hx h2 .nil _ Z1 vs mt1 s1 _ _ ⟨S1, p.l.up z1, O1⟩ ?_))
  rintro us Z2 mt2 s2 z2 S2 O2 (_ | ⟨⟨tk, rfl⟩, (_ | _)⟩)
  obtain ⟨o2, rfl, hm, hg, hO⟩ := O2.pick hb
  exact RG_append S2 (hg _) hn (by rw [sizeLine_eq]; exact Nat.lt_of_le_of_lt hz (by decide)) fun s3 S3 => ⟨rfl, h3 Z2 vs _ s3 K ⟨S3, (p.l.up z1).up z2, hO (oBa d (b ++ [n.toUInt8])) _ rfl rfl⟩ ((q.up z1).up z2)⟩
theorem Bw.baExtend (hs : swapsWith (.Call (.Attribute e0 "extend" apos) [e] [] p') none pos.line c.env = pure false)
    (he : eval (.Call (.Attribute e0 "extend" apos) [e] [] p') c.env = (do let ov ← eval e0 c.env; standAt apos.atName; let (f, first) ← holding [ov] (getMethod ov "extend" pl); callWith p' f first (backTo p' (starEach [e] c.env)) (backToKw p' (keywordEach [] c.env))))
    (hx : starEach [e] c.env = (false, eval e c.env) :: starEach [] c.env) (h1 : Ev c.g L ob e0 (tRef d) ob0) (hb : ob0[i]? = some (oBa d b)) (h2 : Ev c.g L ob0 e (tB y) ob0) (hz : b.length + y.length ≤ 16000000) (h3 : Bw c L (ob0.set i (oBa d (b ++ y))) rest o) :
    Bw c L ob (.Expr (.Call (.Attribute e0 "extend" apos) [e] [] p') pos :: rest) o := by
  intro Z vs mt s K p q
  refine GX_expr c.act.quiet hs (GV_mcall he (h1 Z vs mt s _ _ p ?_))
  rintro v Z1 mt1 s1 z1 S1 O1 rfl
  obtain ⟨o1, rfl, hm, _⟩ := O1.pick hb
  refine GM_extend (S1.has hm) (GV_mach (by intro _ e; cases e) hx rfl (EvL.cons hx h2 .nil _ Z1 vs mt1 s1 _ _ ⟨S1, p.l.up z1, O1⟩ ?_))
  rintro us Z2 mt2 s2 z2 S2 O2 (_ | ⟨⟨tk, rfl⟩, (_ | _)⟩)
  obtain ⟨o2, rfl, hm, hg, hO⟩ := O2.pick hb
  exact RG_extend S2 (hg _) (by rw [sizeLine_eq]; exact Nat.le_trans hz (by decide)) fun s3 S3 => ⟨rfl, h3 Z2 vs _ s3 K ⟨S3, (p.l.up z1).up z2, hO (oBa d (b ++ y)) _ rfl rfl⟩ ((q.up z1).up z2)⟩
theorem Bw.baNew (hnm : c.G.nm = nm) (hj : Ix nm x j) (hn : ns.contains x = false) (hs : swapsWith (.Call (.Name "bytearray" xp) [e] [] p') (some (.Name x apos)) pos.line c.env = pure false) (hgn : c.G.gn = gn) (hc : gn.contains "bytearray" = true) (hx : nsIn (KK w) mainGlobals "bytearray" = some none) (hb : bootBuiltins "bytearray" = some (.type "bytearray"))
    (he : starEach [e] c.env = (false, eval e c.env) :: starEach [] c.env) (h1 : Ev c.g ⟨ns, ts⟩ ob e (tB b) ob1) (hz : b.length ≤ 16000000) (h2 : ∀ d, Bw c ⟨x :: ns, tRef d :: ts⟩ (oBa d b :: ob1) rest o) :
    Bw c ⟨ns, ts⟩ ob (.Assign [.Name x apos] (.Call (.Name "bytearray" xp) [e] [] p') pos :: rest) o := by
  intro Z vs mt s K p q
  have nd := c.act.nd
  rw [hnm] at nd
  refine GX_assign hs (GV_name (R_blt c.act p.S hgn hc hx hb (by decide) (GV_mach (by intro _ e; cases e) he rfl (EvL.cons he h1 .nil _ Z vs mt s _ _ p ?_))))
  rintro us Z1 mt1 s1 z1 S1 O1 (_ | ⟨⟨tk, rfl⟩, (_ | _)⟩)
  refine RG_new c.act S1 (by rw [sizeLine_eq]; exact Nat.le_trans hz (by decide)) fun d s2 hf S2 => ?_
  have hl : vs.length = nm.length := hnm ▸ S2.len
  refine R_st c.act S2 hnm (hj.put hl) fun s3 S3 => h2 d Z1 _ _ s3 K ⟨S3, ?_, .cons (b := oBa d b) rfl O1⟩ (q.up z1)
  have hL : Lc.Ok ⟨ns, ts⟩ (look c.G.nm) Z1 vs := p.l.up z1
  show Lc.Ok _ (look c.G.nm) _ _
  rw [hnm] at hL ⊢
  exact hL.put nd hl hj hn rfl
theorem Op.bytesOf {c : Cx w} (hb : ob[i]? = some (oBa d b)) (hz : b.length ≤ 16000000) : Op c [tRef d] (fun us => PySem.call (.type "bytes") us) ob (tB b) ob := by
  rintro Z vs mt s us Q E S O (_ | ⟨rfl, (_ | _)⟩) q
  obtain ⟨o2, rfl, hm, _⟩ := O.pick hb
  exact R_bytesOf S hm (by rw [sizeLine_eq]; exact Nat.le_trans hz (by decide)) fun tk s' S' => q.at S' O ⟨tk, rfl⟩
theorem Ev.listJ {c : Cx w} {ix : PySem.Expr} (h1 : Ev c L ob e (tLs ts) ob1) (h2 : Ev c L ob1 ix (tN i) ob2) (hi : ts[i]? = some t) (hl : i < 2 ^ 63)
    (hs : ∀ d k tk, ∃ ops, subscripted ix false (.ref d) (.int k tk) = operate ops (getItem (.ref d) (.int k tk))) : Ev c L ob (.Subscript e ix pos) t ob2 := by
  refine Ev.sb h1 h2 ?_
  rintro Z vs mt s a b Q E S O ⟨d, xs, n, rfl, z, T⟩ ⟨tk, rfl⟩ q
  obtain ⟨ops, e'⟩ := hs d i tk
  obtain ⟨v, hv, hr⟩ := T.get hi
  exact T_list e' (S.isListZ z) rfl hl hv (q.at S O hr)
end
section
variable {w : World} {c : Cb w} {ob : List Ob} {d : Addr} {b : List UInt8} {n : Nat}
theorem OpG.putN (hr : Room c.A 1) (hn : n < 2 ^ 63) (hz : b.length ≤ 15999990) : OpG c [tRef d, tN n] (fun us => PySem.call (.ref 229) us) (oBa d b :: ob) tNone (oBa d (b ++ encN n) :: ob) := by
  refine' OpG.defE (f := 229) (obf := [oBa d b]) (ob' := [oBa d (b ++ encN n)]) ["found", "number", "left"] [] ["found", "number"] hr (m := 0) (by decide) ?ho ?k1 ?k2 ?k3 ?k4 ?k5 ?k6 rfl ?h
  wtm_at "fn"
  case h =>
    intro c hr hnm hgn
    refine Bw.seq (Bs.set (t1 := tN n) hnm (by wtm_at "ix") (by wtm_at "d") rfl (by wtm_at "lo") Bs.nil) ?_
    refine Bw.while_ (σ := Nat × List UInt8) (I := fun x => x.1 < 2 ^ 63 ∧ x.2 ++ encN x.1 = b ++ encN n) (m := fun x => x.1) (Ls := fun x => ⟨["left", "found", "number"], [tN x.1, tRef d, tN n]⟩) (obs := fun x => [oBa d x.2]) (x0 := (n, b)) ⟨hn, rfl⟩ fun x hx => ?_
    obtain ⟨m, y⟩ := x
    obtain ⟨hm, he⟩ := hx
    dsimp only at hm he
    have hyz : y.length ≤ 15999999 := by
      have h1 := congrArg List.length he
      rw [List.length_append, List.length_append] at h1
      have h2 := encN_le n hn
      have h3 := encN_pos m
      exact lin3 hz (Nat.le_of_eq h1) h2 (by wtm_at "a")
    by_cases h : 128 ≤ m
    · refine .inr ⟨(Tq.geN rfl (by wtm_at "lo") Ev.nat).yes h, (m / 128, y ++ [(128 + m % 128).toUInt8]), ⟨Nat.lt_of_le_of_lt (Nat.div_le_self _ _) hm, ?_⟩, Nat.div_lt_self (Nat.lt_of_lt_of_le (by decide) h) (by decide), ?_⟩
      · rw [← he, List.append_assoc]
        congr 1
        conv => rhs; rw [encN_eq, if_pos (by exact lin1 h (by wtm_at "a"))]
        rfl
      · refine Bw.baAppend (i := 0) (n := 128 + m % 128) rfl rfl rfl (by wtm_at "lo") rfl ((Ev.bor (Ev.band (by wtm_at "lo") Ev.nat) Ev.nat).cast (congrArg tN (piece m))) (by omega) hyz ?_
        exact Bw.seq (Bs.upd (i := 0) (t1 := tN (m / 128)) hnm (by wtm_at "ix") (by wtm_at "ix") (by wtm_at "d") rfl ((Ev.shr (by wtm_at "lo") Ev.nat).cast (congrArg tN (Nat.shiftRight_eq_div_pow m 7))) Bs.nil) Bw.nil
    · refine .inl ⟨(Tq.geN rfl (by wtm_at "lo") Ev.nat).no h, ?_⟩
      refine Bw.baAppend (i := 0) (n := m) rfl rfl rfl (by wtm_at "lo") rfl (by wtm_at "lo") (by exact lin1 (Nat.lt_of_not_le h) (by wtm_at "a")) hyz ?_
      rw [show y ++ [m.toUInt8] = b ++ encN n by rw [← he]; congr 1; rw [encN_eq, if_neg (by exact Nat.not_lt.mpr (lin1 (Nat.lt_of_not_le h) (by wtm_at "a")))]]
      exact Bw.end_
theorem OpG.putRuns {ps : List (Nat × Nat)} (hr : Room c.A 2) (hn : ps.length ≤ 1000) (hb : ∀ p ∈ ps, SmallP p) (hz : (b ++ encRow ps).length ≤ 15000000) : OpG c [tRef d, tRow ps] (fun us => PySem.call (.ref 236) us) (oBa d b :: ob) tNone (oBa d (b ++ encRow ps) :: ob) := by
  refine' OpG.defE (f := 236) (obf := [oBa d b]) (ob' := [oBa d (b ++ encRow ps)]) ["found", "runs", "many", "number"] ["trie_put_number", "len"] ["found", "runs"] hr (m := 1) (by decide) ?ho ?k1 ?k2 ?k3 ?k4 ?k5 ?k6 rfl ?h
  wtm_at "fn"
  case h =>
    intro c hr hnm hgn
    have hlz : ps.length < 2 ^ 63 := Nat.lt_of_le_of_lt hn (by decide)
    rw [List.length_append] at hz
    refine Bw.exprG c.act.quiet rfl (EvG.cdef (f := 229) hgn (by wtm_at "d") (by wtm_at "kis") (by kernel_rfl) rfl rfl (.cons rfl (by wtm_at "lo") (.cons rfl (Ev.lenM (f := tPair) hgn (by wtm_at "d") rfl (by wtm_at "lo") (Nat.le_trans hn (by decide))) .nil)) (OpG.putN hr hlz (by exact lin1 hz (by wtm_at "a")))) ?_
    refine Bw.for_ (σ := Unit) (I := fun _ _ => True) (Ls := fun _ _ => ⟨["found", "runs"], [tRef d, tRow ps]⟩) (obs := fun i _ => [oBa d (b ++ encN ps.length ++ encPs (ps.take i))]) (x0 := ()) (by intro _; rfl) (Itr.eqv (Itr.list (by wtm_at "lo")) (by rw [List.take_zero]; exact congrArg (fun y => [oBa d y]) (List.append_nil _).symm)) trivial (fun i _ it ot hi _ => ?_) fun _ _ => ?_
    · obtain ⟨q, hq⟩ : ∃ q, ps[i]? = some q := ⟨_, List.getElem?_eq_getElem hi⟩
      have hs := hb q (List.mem_of_getElem? hq)
      have ht := encPs_take hq
      have hle : (encPs (ps.take (i + 1))).length ≤ (encPs ps).length := by
        conv => rhs; rw [← List.take_append_drop (i + 1) ps, encPs, List.flatMap_append, List.length_append]
        exact Nat.le_add_right _ _
      rw [ht, List.length_append, encP, List.length_append] at hle
      have hz' : b.length + ((encN ps.length).length + (encPs ps).length) ≤ 15000000 := by rw [← List.length_append (as := encN ps.length)]; exact hz
      refine ⟨⟨["number", "many", "found", "runs"], [tN q.2, tN q.1, tRef d, tRow ps]⟩, by rw [hq]; exact Asn.pair hnm (by wtm_at "ix") (by wtm_at "ix") (by wtm_at "d") (by wtm_at "d"), (), trivial, ?_⟩
      refine Bw.exprG c.act.quiet rfl (EvG.cdef (f := 229) hgn (by wtm_at "d") (by wtm_at "kis") (by kernel_rfl) rfl rfl (.cons rfl (by wtm_at "lo") (.cons rfl (by wtm_at "lo") .nil)) (OpG.putN hr hs.1 (by rw [List.length_append, List.length_append]; exact lin2 hle hz' (by wtm_at "a")))) ?_
      refine Bw.exprG c.act.quiet rfl (EvG.cdef (f := 229) hgn (by wtm_at "d") (by wtm_at "kis") (by kernel_rfl) rfl rfl (.cons rfl (by wtm_at "lo") (.cons rfl (by wtm_at "lo") .nil)) (OpG.putN hr hs.2 (by rw [List.length_append, List.length_append, List.length_append]; exact lin2 hle hz' (by wtm_at "a")))) ?_
      rw [ht, encP, show b ++ encN ps.length ++ (encPs (ps.take i) ++ (encN q.1 ++ encN q.2)) = b ++ encN ps.length ++ encPs (ps.take i) ++ encN q.1 ++ encN q.2 by simp only [List.append_assoc]]
      exact Bw.drop 2
    · rw [List.take_length, List.append_assoc]
      exact Bw.end_
end
noncomputable def encT (T : Tab) : List UInt8 := mark ++ encN T.lb ++ encN T.mb ++ encVals T.vals ++ encStage T.lows ++ encStage T.mids ++ encRow T.top
structure Tab.Small (T : Tab) : Prop where
  b1 : T.lb ≤ 60
  b2 : T.mb ≤ 60
  wn : T.vals.length ≤ 100
  wl : ∀ r ∈ T.vals, r.length ≤ 1000
  ln : T.lows.length ≤ 1000
  ls : ∀ r ∈ T.lows, SmallRow 100 r
  mn : T.mids.length ≤ 1000
  ms : ∀ r ∈ T.mids, SmallRow 100 r
  ts : SmallRow 100 T.top
theorem encT_len {T : Tab} (h : T.Small) : (encT T).length ≤ 4000000 := by
  have e1 := encN_le T.lb (Nat.lt_of_le_of_lt h.b1 (by decide))
  have e2 := encN_le T.mb (Nat.lt_of_le_of_lt h.b2 (by decide))
  have := encBody_len (T := ⟨(0, 0), encN T.lb ++ encN T.mb, T.vals, T.lows, T.mids, T.top⟩) ⟨Nat.zero_le _, Nat.zero_le _, by rw [List.length_append]; exact lin2 e1 e2 (by wtm_at "a"), h.wn, h.wl, h.ln, h.ls, h.mn, h.ms, h.ts⟩
  rw [encBody, ← List.append_assoc] at this
  exact this
theorem flat_pre {α : Type} (f : α → List UInt8) (l : List α) (i : Nat) : ((l.take i).map f).flatten.length ≤ ((l.map f).flatten).length := by
  conv => rhs; rw [← List.take_append_drop i l, List.map_append, List.flatten_append, List.length_append]
  exact Nat.le_add_right _ _
theorem flat_take {α : Type} (f : α → List UInt8) {l : List α} {i : Nat} {p : α} (h : l[i]? = some p) : ((l.take (i + 1)).map f).flatten = ((l.take i).map f).flatten ++ f p := by
  rw [take_map f h, List.flatten_append, List.flatten_singleton]
theorem len_pre {a b : List UInt8} {n : Nat} (h : (a ++ b).length ≤ n) : a.length ≤ n := Nat.le_trans (by rw [List.length_append]; exact Nat.le_add_right _ _) h
section
variable {w : World} {c : Cb w} {ob : List Ob} {T : Tab}
theorem Bw.rowsPut {nm gn : List Str} {ns : List Str} {ts : List Ty} {rows : List (List (Nat × Nat))} {d : Addr} {b : List UInt8} {iter : PySem.Expr} {rest : List Stmt} {o : Out} {xp p1 p2 p3 p4 p5 p6 : Pos} {j fi : Nat} {pos : Pos} (hr : Room c.A 2) (hnm : c.G.nm = nm) (hgn : c.G.gn = gn) (hc : gn.contains "trie_put_runs" = true) (hj : Ix nm "row" j) (hn : ns.contains "row" = false) (hs : ∀ x, foldedSetIterable iter c.env x = pure x)
    (hf : Ix ("row" :: ns) "found" fi) (ht : (tTRow [] :: ts)[fi]? = some (tRef d)) (ht' : ∀ t, (t :: ts)[fi]? = some (tRef d)) (h1 : Ev c.g ⟨ns, ts⟩ [oBa d b] iter (tLs (rows.map tTRow)) [oBa d b]) (hb : ∀ r ∈ rows, SmallRow 100 r) (hz : (b ++ (rows.map encRow).flatten).length ≤ 4000000)
    (h2 : Bw c ⟨ns, ts⟩ [oBa d (b ++ (rows.map encRow).flatten)] rest o) : Bw c ⟨ns, ts⟩ [oBa d b] (.For (.Name "row" xp) iter [.Expr (.Call (.Name "trie_put_runs" p1) [.Name "found" p2, .Attribute (.Name "row" p3) "runs" p4] [] p5) p6] [] pos :: rest) o := by
  refine Bw.for_ (σ := Unit) (I := fun _ _ => True) (Ls := fun _ _ => ⟨ns, ts⟩) (obs := fun i _ => [oBa d (b ++ ((rows.take i).map encRow).flatten)]) (x0 := ()) hs (Itr.eqv (Itr.list h1) (congrArg (fun y => [oBa d y]) (List.append_nil _).symm)) trivial (fun i _ it ot hi _ => ?_) fun _ _ => ?_
  · obtain ⟨row, hrow⟩ : ∃ row, rows[i]? = some row := ⟨_, List.getElem?_eq_getElem hi⟩
    have hs := hb row (List.mem_of_getElem? hrow)
    have hle := flat_pre encRow rows (i + 1)
    rw [flat_take encRow hrow] at hle
    refine ⟨⟨"row" :: ns, tTRow row :: ts⟩, by rw [hrow]; exact Asn.name hnm hj hn, (), trivial, ?_⟩
    rw [List.length_append] at hz
    refine Bw.exprG c.act.quiet rfl (EvG.cdef (f := 236) hgn hc (by wtm_at "kis") (by kernel_rfl) rfl rfl (.cons rfl (Ev.loc _ hf (ht' _)) (.cons rfl (Ev.att rfl (row_runs w) (Ev.loc 0 .here rfl) Ins.inn .here Hd.ls) .nil)) (OpG.putRuns hr (Nat.le_trans hs.len (by decide)) hs.pr (by rw [List.append_assoc, List.length_append]; exact lin2 hz hle (by wtm_at "a")))) ?_
    rw [flat_take encRow hrow, ← List.append_assoc]
    exact Bw.drop 1
  · rw [List.take_length]; exact h2
theorem OpG.octets (hr : Room c.A 3) (hT : T.Small) : OpG c [tTrie T, tVal (.ref 416)] (fun us => PySem.call (.ref 257) us) ob (tB (sealB (encT T))) ob := by
  refine' OpG.def_ (f := 257) (obf := []) (ob' := []) ["trie", "value_octets", "found", "value", "part", "row"] ["trie_put_number", "bytearray", "TRIE_MARK", "len", "trie_put_runs", "bytes", "trie_sum"] ["trie", "value_octets"] hr (m := 2) (by decide) ?ho ?k1 ?k2 ?k3 ?k4 ?k5 ?k6 rfl ?h
  wtm_at "fn"
  case h =>
    intro c hr hnm hgn
    have hr1 : Room c.A 1 := hr.le (by decide)
    have h9 := encT_len hT
    have e9 : encT T = mark ++ encN T.lb ++ encN T.mb ++ encN T.vals.length ++ (T.vals.map fun v => encN v.length ++ v).flatten ++ encN T.lows.length ++ (T.lows.map encRow).flatten ++ encN T.mids.length ++ (T.mids.map encRow).flatten ++ encRow T.top := by
      simp only [encT, encVals, encStage, List.append_assoc]
    have h9' := h9
    rw [e9] at h9'
    have h8 := len_pre h9'
    have h7 := len_pre h8
    have h6 := len_pre h7
    have h5 := len_pre h6
    have h4 := len_pre h5
    have h3 := len_pre h4
    have h2 := len_pre h3
    have h1 := len_pre h2
    have big : (4000000 : Nat) ≤ 15999990 := by decide
    have lv : T.vals.length < 2 ^ 63 := Nat.lt_of_le_of_lt hT.wn (by decide)
    have ll : T.lows.length < 2 ^ 63 := Nat.lt_of_le_of_lt hT.ln (by decide)
    have lm : T.mids.length < 2 ^ 63 := Nat.lt_of_le_of_lt hT.mn (by decide)
    refine Bw.baNew (b := mark) hnm (by wtm_at "ix") (by wtm_at "d") rfl hgn (by wtm_at "d") (by wtm_at "kis") (by boot_by_name) rfl ((Ev.glob hgn (by wtm_at "d") (by wtm_at "kis")).conv fun Z v e => ⟨_, e⟩) (nb rfl) fun d => ?_
    refine Bw.exprG c.act.quiet rfl (EvG.cdef (f := 229) hgn (by wtm_at "d") (by wtm_at "kis") (by kernel_rfl) rfl rfl (.cons rfl (by wtm_at "lo") (.cons rfl (Ev.att rfl (trie_low_bits w) (by wtm_at "lo") Ins.inn .here Hd.n) .nil)) (OpG.putN hr1 (Nat.lt_of_le_of_lt hT.b1 (by decide)) (nb rfl))) ?_
    refine Bw.exprG c.act.quiet rfl (EvG.cdef (f := 229) hgn (by wtm_at "d") (by wtm_at "kis") (by kernel_rfl) rfl rfl (.cons rfl (by wtm_at "lo") (.cons rfl (Ev.att rfl (trie_mid_bits w) (by wtm_at "lo") Ins.inn (.there rfl .here) Hd.n) .nil)) (OpG.putN hr1 (Nat.lt_of_le_of_lt hT.b2 (by decide)) (Nat.le_trans h1 big))) ?_
    refine Bw.exprG c.act.quiet rfl (EvG.cdef (f := 229) hgn (by wtm_at "d") (by wtm_at "kis") (by kernel_rfl) rfl rfl (.cons rfl (by wtm_at "lo") (.cons rfl (Ev.lenM (f := tB) hgn (by wtm_at "d") rfl (Ev.att rfl (trie_values w) (by wtm_at "lo") Ins.inn (.there rfl (.there rfl .here)) Hd.ls) (Nat.le_trans hT.wn (by decide))) .nil)) (OpG.putN hr1 lv (Nat.le_trans h2 big))) ?_
    refine Bw.for_ (σ := Unit) (I := fun _ _ => True) (Ls := fun _ _ => ⟨["found", "trie", "value_octets"], [tRef d, tTrie T, tVal (.ref 416)]⟩) (obs := fun i _ => [oBa d (mark ++ encN T.lb ++ encN T.mb ++ encN T.vals.length ++ ((T.vals.take i).map fun v => encN v.length ++ v).flatten)]) (x0 := ()) (by intro _; rfl)
      (Itr.eqv (Itr.list (f := tB) (Ev.att rfl (trie_values w) (by wtm_at "lo") Ins.inn (.there rfl (.there rfl .here)) Hd.ls)) (congrArg (fun y => [oBa d y]) (List.append_nil _).symm)) trivial (fun i _ it ot hi _ => ?_) fun _ _ => ?_
    · obtain ⟨v, hv⟩ : ∃ v, T.vals[i]? = some v := ⟨_, List.getElem?_eq_getElem hi⟩
      have hvl := hT.wl v (List.mem_of_getElem? hv)
      have hle := flat_pre (fun v : List UInt8 => encN v.length ++ v) T.vals (i + 1)
      rw [flat_take (fun v : List UInt8 => encN v.length ++ v) hv] at hle
      have h4' := h4
      rw [List.length_append] at h4'
      rw [List.length_append, List.length_append] at hle
      refine ⟨⟨["value", "found", "trie", "value_octets"], [tB v, tRef d, tTrie T, tVal (.ref 416)]⟩, by rw [hv]; exact Asn.name hnm (by wtm_at "ix") (by wtm_at "d"), (), trivial, ?_⟩
      refine Bw.seq (Bs.set (t1 := tB v) hnm (by wtm_at "ix") (by wtm_at "d") rfl (Ev.cval (f := 416) (by wtm_at "ix") rfl (by kernel_rfl) rfl rfl (.cons rfl (by wtm_at "lo") .nil) (Op.same hr1)) Bs.nil) ?_
      refine Bw.exprG c.act.quiet rfl (EvG.cdef (f := 229) hgn (by wtm_at "d") (by wtm_at "kis") (by kernel_rfl) rfl rfl (.cons rfl (by wtm_at "lo") (.cons rfl (Ev.lenB hgn (by wtm_at "d") rfl (by wtm_at "lo") (Nat.le_trans hvl (by decide))) .nil)) (OpG.putN hr1 (Nat.lt_of_le_of_lt hvl (by decide)) (by rw [List.length_append]; exact lin2 h4' hle (by wtm_at "a")))) ?_
      refine Bw.baExtend (i := 0) (y := v) rfl rfl rfl (by wtm_at "lo") rfl (by wtm_at "lo") (by rw [List.length_append, List.length_append]; exact lin2 h4' hle (by wtm_at "a")) ?_
      rw [flat_take (fun v : List UInt8 => encN v.length ++ v) hv, show ∀ x y z : List UInt8, x ++ (y ++ (z ++ v)) = x ++ y ++ z ++ v from fun x y z => by simp only [List.append_assoc]]
      exact Bw.drop 2
    rw [List.take_length]
    refine Bw.exprG c.act.quiet rfl (EvG.cdef (f := 229) hgn (by wtm_at "d") (by wtm_at "kis") (by kernel_rfl) rfl rfl (.cons rfl (by wtm_at "lo") (.cons rfl (Ev.lenM (f := tTRow) hgn (by wtm_at "d") rfl (Ev.att rfl (trie_lows w) (by wtm_at "lo") Ins.inn (.there rfl (.there rfl (.there rfl .here))) Hd.ls) (Nat.le_trans hT.ln (by decide))) .nil)) (OpG.putN hr1 ll (Nat.le_trans h4 big))) ?_
    refine Bw.rowsPut (rows := T.lows) hr hnm hgn (by wtm_at "d") (by wtm_at "ix") (by wtm_at "d") (by intro _; rfl) (by wtm_at "ix") rfl (fun _ => rfl) (Ev.att rfl (trie_lows w) (by wtm_at "lo") Ins.inn (.there rfl (.there rfl (.there rfl .here))) Hd.ls) hT.ls h6 ?_
    refine Bw.exprG c.act.quiet rfl (EvG.cdef (f := 229) hgn (by wtm_at "d") (by wtm_at "kis") (by kernel_rfl) rfl rfl (.cons rfl (by wtm_at "lo") (.cons rfl (Ev.lenM (f := tTRow) hgn (by wtm_at "d") rfl (Ev.att rfl (trie_mids w) (by wtm_at "lo") Ins.inn (.there rfl (.there rfl (.there rfl (.there rfl .here)))) Hd.ls) (Nat.le_trans hT.mn (by decide))) .nil)) (OpG.putN hr1 lm (Nat.le_trans h6 big))) ?_
    refine Bw.rowsPut (rows := T.mids) hr hnm hgn (by wtm_at "d") (by wtm_at "ix") (by wtm_at "d") (by intro _; rfl) (by wtm_at "ix") rfl (fun _ => rfl) (Ev.att rfl (trie_mids w) (by wtm_at "lo") Ins.inn (.there rfl (.there rfl (.there rfl (.there rfl .here)))) Hd.ls) hT.ms h8 ?_
    refine Bw.exprG c.act.quiet rfl (EvG.cdef (f := 236) hgn (by wtm_at "d") (by wtm_at "kis") (by kernel_rfl) rfl rfl (.cons rfl (by wtm_at "lo") (.cons rfl (Ev.att rfl (row_runs w) (Ev.att rfl (trie_top w) (by wtm_at "lo") Ins.inn (.there rfl (.there rfl (.there rfl (.there rfl (.there rfl .here))))) Hd.trow) Ins.inn .here Hd.ls) .nil)) (OpG.putRuns hr (Nat.le_trans hT.ts.len (by decide)) hT.ts.pr (Nat.le_trans h9' (by decide)))) ?_
    rw [← e9]
    have hz := Nat.le_trans h9 (show 4000000 ≤ 16000000 by decide)
    exact Bw.ret (Ev.badd (Ev.ctype (T := "bytes") hgn (by wtm_at "d") (by wtm_at "kis") (by boot_by_name) (by decide) rfl rfl (.cons rfl (by wtm_at "lo") .nil) (Op.bytesOf (i := 0) rfl hz)) ((Ev.cdef (f := 243) hgn (by wtm_at "d") (by wtm_at "kis") (by kernel_rfl) rfl rfl (.cons rfl (Ev.ctype (T := "bytes") hgn (by wtm_at "d") (by wtm_at "kis") (by boot_by_name) (by decide) rfl rfl (.cons rfl (by wtm_at "lo") .nil) (Op.bytesOf (i := 0) rfl hz)) .nil) (Op.sum_ hr1 hz)).weak (.drop .nil)) (Nat.le_trans (Nat.add_le_add h9 (show (sumB (encT T)).length ≤ 4 from Nat.le_refl _)) (by decide)))
end
noncomputable def getT (T : Tab) (code : Nat) : Option (List UInt8) :=
  match (expand T.top)[code >>> (T.lb + T.mb)]? with
  | none => none
  | some m => match T.mids[m]? with
    | none => none
    | some mid => match (expand mid)[code >>> T.lb &&& ((1 <<< T.mb) - 1)]? with
      | none => none
      | some l => match T.lows[l]? with
        | none => none
        | some low => match (expand low)[code &&& ((1 <<< T.lb) - 1)]? with
          | none => none
          | some v => T.vals[v]?
theorem one_shl (b : Nat) : 1 ≤ 1 <<< b := by rw [Nat.shiftLeft_eq, Nat.one_mul]; exact Nat.pow_pos (by decide)
theorem and_lt (a b : Nat) (h : b ≤ 60) : a &&& ((1 <<< b) - 1) < 2 ^ 63 := by
  refine Nat.lt_of_le_of_lt Nat.and_le_right (Nat.lt_of_le_of_lt (Nat.sub_le _ _) ?_)
  rw [Nat.shiftLeft_eq, Nat.one_mul]
  exact Nat.lt_of_le_of_lt (Nat.pow_le_pow_right (by decide) h) (by decide)
theorem shr_lt {a : Nat} (b : Nat) (h : a < 2 ^ 60) : a >>> b < 2 ^ 63 := by
  rw [Nat.shiftRight_eq_div_pow]
  exact Nat.lt_of_le_of_lt (Nat.div_le_self _ _) (Nat.lt_trans h (by decide))
theorem map_at {α : Type} (f : α → Ty) {l : List α} {i : Nat} {x : α} (h : l[i]? = some x) : (l.map f)[i]? = some (f x) := by rw [List.getElem?_map, h]; rfl
section
variable {w : World} {T : Tab}
theorem OpG.mOctets {c : Cb w} {ob : List Ob} (hr : Room c.A 4) (hT : T.Small) : OpG c [tTrie T, tVal (.ref 416)] (fun us => PySem.call (.ref 205) us) ob (tB (sealB (encT T))) ob := by
  refine' OpG.def_ (f := 205) (obf := []) (ob' := []) ["self", "value_octets"] ["trie_octets"] ["self", "value_octets"] hr (m := 3) (by decide) ?ho ?k1 ?k2 ?k3 ?k4 ?k5 ?k6 rfl ?h
  wtm_at "fn"
  case h =>
    intro c hr hnm hgn
    exact Bw.retG (EvG.cdef (f := 257) hgn (by wtm_at "d") (by wtm_at "kis") (by kernel_rfl) rfl rfl (.cons rfl (by wtm_at "lo") (.cons rfl (by wtm_at "lo") .nil)) (OpG.octets hr hT))
theorem Op.blocks {c : Cx w} {ob : List Ob} (hr : Room c.A 1) (hT : T.Small) : Op c [tTrie T] (fun us => PySem.call (.ref 198) us) ob (tPair (T.mids.length, T.lows.length)) ob := by
  refine' Op.def_ (f := 198) (obf := []) (ob' := []) ["self"] ["len"] ["self"] hr (m := 0) (by decide) ?ho ?k1 ?k2 ?k3 ?k4 ?k5 ?k6 rfl ?h
  wtm_at "fn"
  case h =>
    intro c hr hnm hgn
    exact Bs.ret (Ev.tup (.cons rfl (Ev.lenM (f := tTRow) hgn (by wtm_at "d") rfl (Ev.att rfl (trie_mids w) (by wtm_at "lo") Ins.inn (.there rfl (.there rfl (.there rfl (.there rfl .here)))) Hd.ls) (Nat.le_trans hT.mn (by decide))) (.cons rfl (Ev.lenM (f := tTRow) hgn (by wtm_at "d") rfl (Ev.att rfl (trie_lows w) (by wtm_at "lo") Ins.inn (.there rfl (.there rfl (.there rfl .here))) Hd.ls) (Nat.le_trans hT.ln (by decide))) .nil)) (nb rfl))
theorem Op.get {c : Cx w} {ob : List Ob} {code : Nat} {b : List UInt8} (hr : Room c.A 1) (hT : T.Small) (hc : code < 2 ^ 60) (hb : getT T code = some b) : Op c [tTrie T, tN code] (fun us => PySem.call (.ref 191) us) ob (tB b) ob := by
  unfold getT at hb
  cases q1 : (expand T.top)[code >>> (T.lb + T.mb)]? with
  | none => rw [q1] at hb; cases hb
  | some m =>
  rw [q1] at hb
  dsimp only at hb
  cases q2 : T.mids[m]? with
  | none => rw [q2] at hb; cases hb
  | some mid =>
  rw [q2] at hb
  dsimp only at hb
  cases q3 : (expand mid)[code >>> T.lb &&& ((1 <<< T.mb) - 1)]? with
  | none => rw [q3] at hb; cases hb
  | some l =>
  rw [q3] at hb
  dsimp only at hb
  cases q4 : T.lows[l]? with
  | none => rw [q4] at hb; cases hb
  | some low =>
  rw [q4] at hb
  dsimp only at hb
  cases q5 : (expand low)[code &&& ((1 <<< T.lb) - 1)]? with
  | none => rw [q5] at hb; cases hb
  | some n =>
  rw [q5] at hb
  dsimp only at hb
  have i2 := Nat.lt_of_lt_of_le (List.getElem?_eq_some_iff.mp q2).1 (Nat.le_trans hT.mn (show 1000 ≤ 2 ^ 63 by decide))
  have i4 := Nat.lt_of_lt_of_le (List.getElem?_eq_some_iff.mp q4).1 (Nat.le_trans hT.ln (show 1000 ≤ 2 ^ 63 by decide))
  have i6 := Nat.lt_of_lt_of_le (List.getElem?_eq_some_iff.mp hb).1 (Nat.le_trans hT.wn (show 100 ≤ 2 ^ 63 by decide))
  refine' Op.def_ (f := 191) (obf := []) (ob' := []) ["self", "code", "mid", "low"] [] ["self", "code"] hr (m := 0) (by decide) ?ho ?k1 ?k2 ?k3 ?k4 ?k5 ?k6 rfl ?h
  wtm_at "fn"
  case h =>
    intro c hr hnm hgn
    refine Bs.set (t1 := tTRow mid) hnm (by wtm_at "ix") (by wtm_at "d") rfl (Ev.listJ (Ev.att rfl (trie_mids w) (by wtm_at "lo") Ins.inn (.there rfl (.there rfl (.there rfl (.there rfl .here)))) Hd.ls) (Ev.listJ (Ev.att rfl (row_numbers w) (Ev.att rfl (trie_top w) (by wtm_at "lo") Ins.inn (.there rfl (.there rfl (.there rfl (.there rfl (.there rfl .here))))) Hd.trow) Ins.inn (.there rfl .here) Hd.ls) (Ev.shr (by wtm_at "lo") (Ev.add (Ev.att rfl (trie_low_bits w) (by wtm_at "lo") Ins.inn .here Hd.n) (Ev.att rfl (trie_mid_bits w) (by wtm_at "lo") Ins.inn (.there rfl .here) Hd.n))) (map_at tN q1) (shr_lt _ hc) (fun _ _ _ => ⟨_, rfl⟩)) (map_at tTRow q2) i2 (fun _ _ _ => ⟨_, rfl⟩)) ?_
    refine Bs.set (t1 := tTRow low) hnm (by wtm_at "ix") (by wtm_at "d") rfl (Ev.listJ (Ev.att rfl (trie_lows w) (by wtm_at "lo") Ins.inn (.there rfl (.there rfl (.there rfl .here))) Hd.ls) (Ev.listJ (Ev.att rfl (row_numbers w) (by wtm_at "lo") Ins.inn (.there rfl .here) Hd.ls) (Ev.band (Ev.shr (by wtm_at "lo") (Ev.att rfl (trie_low_bits w) (by wtm_at "lo") Ins.inn .here Hd.n)) (Ev.sub (Ev.shl Ev.nat (Ev.att rfl (trie_mid_bits w) (by wtm_at "lo") Ins.inn (.there rfl .here) Hd.n) (Nat.le_trans hT.b2 (by decide)) (by decide)) Ev.nat (one_shl _))) (map_at tN q3) (and_lt _ _ hT.b2) (fun _ _ _ => ⟨_, rfl⟩)) (map_at tTRow q4) i4 (fun _ _ _ => ⟨_, rfl⟩)) ?_
    exact Bs.ret (Ev.listJ (Ev.att rfl (trie_values w) (by wtm_at "lo") Ins.inn (.there rfl (.there rfl .here)) Hd.ls) (Ev.listJ (Ev.att rfl (row_numbers w) (by wtm_at "lo") Ins.inn (.there rfl .here) Hd.ls) (Ev.band (by wtm_at "lo") (Ev.sub (Ev.shl Ev.nat (Ev.att rfl (trie_low_bits w) (by wtm_at "lo") Ins.inn .here Hd.n) (Nat.le_trans hT.b1 (by decide)) (by decide)) Ev.nat (one_shl _))) (map_at tN q5) (and_lt _ _ hT.b1) (fun _ _ _ => ⟨_, rfl⟩)) (map_at tB hb) i6 (fun _ _ _ => ⟨_, rfl⟩))
end
open PySem
noncomputable def Rs (b : List UInt8) (p : Nat) (l : List UInt8) : Prop := ∃ pre, b = pre ++ l ∧ p = pre.length
theorem Rs.skip {b : List UInt8} {p : Nat} {x l : List UInt8} (h : Rs b p (x ++ l)) : Rs b (p + x.length) l := by
  obtain ⟨pre, hb, hp⟩ := h
  exact ⟨pre ++ x, by rw [hb, List.append_assoc], by rw [List.length_append, hp]⟩
theorem Rs.len {b : List UInt8} {p : Nat} {l : List UInt8} (h : Rs b p l) : p + l.length = b.length := by
  obtain ⟨pre, hb, hp⟩ := h
  rw [hb, hp, List.length_append]
theorem Rs.num {b : List UInt8} {p n : Nat} {l : List UInt8} (h : Rs b p (encN n ++ l)) (hn : n < 2 ^ 35) : ∃ q, rdNum b p = .ok (n, q) ∧ Rs b q l := by
  have h' := h.skip
  obtain ⟨pre, hb, hp⟩ := h
  exact ⟨_, rdNum_at hb hp hn, h'⟩
theorem Rs.stop {b : List UInt8} {p : Nat} (h : Rs b p []) : rdNum b p = .error "a number breaks off" := by
  have := h.len
  rw [List.length_nil, Nat.add_zero] at this
  rw [this]; exact rdNum_end b
theorem Rs.part {b : List UInt8} {p : Nat} {x l : List UInt8} (h : Rs b p (x ++ l)) : rdPart b p x.length = .ok (x, p + x.length) := by
  have hl := h.len
  obtain ⟨pre, hb, hp⟩ := h
  unfold rdPart
  rw [List.length_append] at hl
  rw [if_neg (by exact Nat.not_lt.mpr (lin1 (Nat.le_of_eq hl) (by wtm_at "a"))), hb, hp, List.drop_left, List.take_left]
theorem encN_small {n : Nat} (h : n < 128) : encN n = [n.toUInt8] := by rw [encN_eq, if_neg (by exact Nat.not_lt.mpr (lin1 h (by wtm_at "a")))]
noncomputable def VR (below : Nat) : Option Nat → List (Nat × Nat) → Prop
  | _, [] => True
  | o, p :: r => 0 < p.1 ∧ p.1 < 2 ^ 35 ∧ p.2 < below ∧ p.2 < 2 ^ 35 ∧ o ≠ some p.2 ∧ VR below (some p.2) r
theorem VR.le {a b : Nat} (h : a ≤ b) {o : Option Nat} {ps : List (Nat × Nat)} (v : VR a o ps) : VR b o ps := by
  induction ps generalizing o with
  | nil => trivial
  | cons p r ih => exact ⟨v.1, v.2.1, Nat.lt_of_lt_of_le v.2.2.1 h, v.2.2.2.1, v.2.2.2.2.1, ih v.2.2.2.2.2⟩
theorem encPs_cons (p : Nat × Nat) (r : List (Nat × Nat)) (l : List UInt8) : encPs (p :: r) ++ l = encN p.1 ++ (encN p.2 ++ (encPs r ++ l)) := by simp [encPs, encP, List.append_assoc]
theorem encPs_append (a c : List (Nat × Nat)) : encPs (a ++ c) = encPs a ++ encPs c := by simp [encPs]
theorem Rs.runs {b l : List UInt8} {size below : Nat} {ps : List (Nat × Nat)} {p k f : Nat} {runs : List (Nat × Nat)} (h : Rs b p (encPs ps ++ l)) (v : VR below (runs.getLast?.map (·.2)) ps) (hs : f + (ps.map (·.1)).sum ≤ size) :
    ∃ q, rdRuns b size below (ps.length + k) p runs f = rdRuns b size below k q (runs ++ ps) (f + (ps.map (·.1)).sum) ∧ Rs b q l := by
  induction ps generalizing p f runs with
  | nil => exact ⟨p, by rw [List.append_nil, List.length_nil, Nat.zero_add]; rfl, h⟩
  | cons x ps ih =>
    obtain ⟨v1, v2, v3, v4, v5, v6⟩ := v
    rw [List.map_cons, List.sum_cons] at hs
    rw [encPs_cons] at h
    obtain ⟨q1, e1, h1⟩ := h.num v2
    obtain ⟨q2, e2, h2⟩ := h1.num v4
    obtain ⟨q, e, hq⟩ := ih (f := f + x.1) (runs := runs ++ [x]) h2 (by rw [List.getLast?_append]; exact v6) (by exact lin1 hs (by wtm_at "a"))
    refine ⟨q, ?_, hq⟩
    rw [List.length_cons, show ps.length + 1 + k = (ps.length + k) + 1 by exact Nat.le_antisymm ((by wtm_at "a")) ((by wtm_at "a")), rdRuns, e1]
    dsimp only
    rw [e2]
    dsimp only
    rw [if_neg (by exact not_or.mpr ⟨Nat.ne_of_gt (lin1 v1 (by wtm_at "a")), Nat.not_lt.mpr (lin1 hs (by wtm_at "a"))⟩), if_neg (by exact Nat.not_le.mpr (lin1 v3 (by wtm_at "a"))), if_neg v5, show (x.1, x.2) = x from rfl, e, List.append_assoc, List.map_cons, List.sum_cons, ← Nat.add_assoc]
    rfl
theorem Rs.row {b l : List UInt8} {size below p : Nat} {ps : List (Nat × Nat)} (h : Rs b p (encRow ps ++ l)) (hv : VR below none ps) (hs : (ps.map (·.1)).sum = size) (hl : ps.length < 2 ^ 35) : ∃ q, rdRow b size below p = .ok (ps, q) ∧ Rs b q l := by
  unfold encRow at h
  rw [List.append_assoc] at h
  obtain ⟨q1, e1, h1⟩ := h.num hl
  obtain ⟨q, e, hq⟩ := Rs.runs (k := 0) (f := 0) (runs := []) (size := size) h1 hv (by exact lin1 (Nat.le_of_eq hs) (by wtm_at "a"))
  refine ⟨q, ?_, hq⟩
  unfold rdRow
  rw [e1]
  dsimp only
  rw [show ps.length = ps.length + 0 from rfl, e, rdRuns]
  dsimp only
  rw [if_neg (by exact Nat.not_lt.mpr (lin1 (Nat.le_of_eq hs.symm) (by wtm_at "a"))), List.nil_append]
structure RowOk (size below : Nat) (ps : List (Nat × Nat)) : Prop where
  v : VR below none ps
  s : (ps.map (·.1)).sum = size
  l : ps.length < 2 ^ 35
theorem RowOk.le {size a b : Nat} {ps : List (Nat × Nat)} (k : a ≤ b) (h : RowOk size a ps) : RowOk size b ps := ⟨h.v.le k, h.s, h.l⟩
theorem Rs.rows {b l : List UInt8} {size below : Nat} {rows : List (List (Nat × Nat))} {p k : Nat} {found : List (List (Nat × Nat))} (h : Rs b p ((rows.map encRow).flatten ++ l)) (hv : ∀ r ∈ rows, RowOk size below r) (nd : (found ++ rows).Nodup) :
    ∃ q, rdRows b size below (rows.length + k) p found = rdRows b size below k q (found ++ rows) ∧ Rs b q l := by
  induction rows generalizing p found with
  | nil => exact ⟨p, by rw [List.append_nil, List.length_nil, Nat.zero_add], h⟩
  | cons r rows ih =>
    rw [List.map_cons, List.flatten_cons, List.append_assoc] at h
    have hr := hv r (.head _)
    obtain ⟨q1, e1, h1⟩ := h.row hr.v hr.s hr.l
    obtain ⟨q, e, hq⟩ := ih (found := found ++ [r]) h1 (fun x hx => hv x (.tail _ hx)) (by rw [List.append_assoc]; exact nd)
    refine ⟨q, ?_, hq⟩
    rw [List.length_cons, show rows.length + 1 + k = (rows.length + k) + 1 by exact Nat.le_antisymm ((by wtm_at "a")) ((by wtm_at "a")), rdRows, e1]
    dsimp only
    rw [if_neg (fun hm => ?_), e, List.append_assoc]
    · rfl
    · rw [List.nodup_append] at nd
      exact nd.2.2 r hm r (.head _) rfl
theorem Rs.stageK {b l : List UInt8} {size below most p k : Nat} {rows : List (List (Nat × Nat))} (h : Rs b p (encN (rows.length + k) ++ ((rows.map encRow).flatten ++ l))) (hv : ∀ r ∈ rows, RowOk size below r) (nd : rows.Nodup) (hm : rows.length + k ≤ most) (hl : rows.length + k < 2 ^ 35) :
    ∃ q, rdStage b size below most p = rdRows b size below k q rows ∧ Rs b q l := by
  obtain ⟨q1, e1, h1⟩ := h.num hl
  obtain ⟨q, e, hq⟩ := h1.rows (k := k) (found := []) hv (by rw [List.nil_append]; exact nd)
  refine ⟨q, ?_, hq⟩
  unfold rdStage
  rw [e1]
  dsimp only
  rw [if_neg (by exact Nat.not_lt.mpr (lin1 hm (by wtm_at "a"))), e, List.nil_append]
theorem Rs.stage {b l : List UInt8} {size below most p : Nat} {rows : List (List (Nat × Nat))} (h : Rs b p (encStage rows ++ l)) (hv : ∀ r ∈ rows, RowOk size below r) (nd : rows.Nodup) (hm : rows.length ≤ most) (hl : rows.length < 2 ^ 35) :
    ∃ q, rdStage b size below most p = .ok (rows, q) ∧ Rs b q l := by
  unfold encStage at h
  rw [List.append_assoc] at h
  obtain ⟨q, e, hq⟩ := Rs.stageK (k := 0) (size := size) (below := below) (most := most) h hv nd hm hl
  exact ⟨q, by rw [e, rdRows], hq⟩
noncomputable abbrev encV (v : List UInt8) : List UInt8 := encN v.length ++ v
theorem Rs.vals {b l : List UInt8} {ws : List (List UInt8)} {p k : Nat} {found : List (List UInt8)} (h : Rs b p ((ws.map encV).flatten ++ l)) (hv : ∀ v ∈ ws, v.length < 2 ^ 35) (nd : (found ++ ws).Nodup) :
    ∃ q, rdVals b (ws.length + k) p found = rdVals b k q (found ++ ws) ∧ Rs b q l := by
  induction ws generalizing p found with
  | nil => exact ⟨p, by rw [List.append_nil, List.length_nil, Nat.zero_add], h⟩
  | cons v ws ih =>
    rw [List.map_cons, List.flatten_cons, List.append_assoc, encV, List.append_assoc] at h
    obtain ⟨q1, e1, h1⟩ := h.num (hv v (.head _))
    obtain ⟨q, e, hq⟩ := ih (found := found ++ [v]) h1.skip (fun x hx => hv x (.tail _ hx)) (by rw [List.append_assoc]; exact nd)
    refine ⟨q, ?_, hq⟩
    rw [List.length_cons, show ws.length + 1 + k = (ws.length + k) + 1 by exact Nat.le_antisymm ((by wtm_at "a")) ((by wtm_at "a")), rdVals, e1]
    dsimp only
    rw [h1.part]
    dsimp only
    rw [if_neg (fun hm => ?_), e, List.append_assoc]
    · rfl
    · rw [List.nodup_append] at nd
      exact nd.2.2 v hm v (.head _) rfl
theorem Rs.valuesK {b l : List UInt8} {p k : Nat} {ws : List (List UInt8)} (h : Rs b p (encN (ws.length + k) ++ ((ws.map encV).flatten ++ l))) (hv : ∀ v ∈ ws, v.length < 2 ^ 35) (nd : ws.Nodup) (hl : ws.length + k < 2 ^ 35) :
    ∃ q, rdValues b p = rdVals b k q ws ∧ Rs b q l := by
  obtain ⟨q1, e1, h1⟩ := h.num hl
  obtain ⟨q, e, hq⟩ := h1.vals (k := k) (found := []) hv (by rw [List.nil_append]; exact nd)
  refine ⟨q, ?_, hq⟩
  unfold rdValues
  rw [e1]
  dsimp only
  rw [e, List.nil_append]
theorem Rs.values {b l : List UInt8} {p : Nat} {ws : List (List UInt8)} (h : Rs b p (encVals ws ++ l)) (hv : ∀ v ∈ ws, v.length < 2 ^ 35) (nd : ws.Nodup) (hl : ws.length < 2 ^ 35) : ∃ q, rdValues b p = .ok (ws, q) ∧ Rs b q l := by
  unfold encVals at h
  rw [List.append_assoc] at h
  obtain ⟨q, e, hq⟩ := Rs.valuesK (k := 0) h hv nd hl
  exact ⟨q, by rw [e, rdVals], hq⟩
theorem sumB_len (b : List UInt8) : (sumB b).length = 4 := rfl
theorem rdTable_seal {x : List UInt8} (h : Rs x 4 (x.drop 4)) (hm : x.take 4 = mark) : rdTable (sealB x) = rdTab x := by
  have hl := h.len
  unfold rdTable rdSum sealB
  have e1 : (x ++ sumB x).length - 4 = x.length := by rw [List.length_append, sumB_len]; exact Nat.le_antisymm (lin1 (Nat.le_of_eq (Nat.sub_add_cancel (show 4 ≤ x.length + 4 from (by wtm_at "a")))) (by wtm_at "a")) (lin1 (Nat.le_of_eq (Nat.sub_add_cancel (show 4 ≤ x.length + 4 from (by wtm_at "a"))).symm) (by wtm_at "a"))
  rw [e1, List.drop_left, List.take_left, if_neg, if_neg (fun q => q rfl)]
  rw [List.length_append, sumB_len, List.take_append_of_le_length (by exact lin1 (Nat.le_of_eq hl) (by wtm_at "a"))]
  exact fun q => q.elim (fun q => by exact linF2 (Nat.le_of_eq hl) q (by wtm_at "a")) fun q => q hm
theorem Rs.bits {b l : List UInt8} {x y : Nat} (h : Rs b 4 (encN x ++ (encN y ++ l))) (hx : x < 2 ^ 35) (hy : y < 2 ^ 35) : ∃ q, rdTab b = rdTab2 b x y q ∧ Rs b q l := by
  obtain ⟨q1, e1, h1⟩ := h.num hx
  obtain ⟨q2, e2, h2⟩ := h1.num hy
  refine ⟨q2, ?_, h2⟩
  unfold rdTab
  rw [e1]
  dsimp only
  rw [e2]
theorem rdTab2_ok {b : List UInt8} {x y p : Nat} (hx : 1 ≤ x) (hy : 1 ≤ y) (hs : x + y ≤ 16) : rdTab2 b x y p = match rdValues b p with
    | .error e => .error e
    | .ok (vals, p1) => rdTab3 b x y vals p1 := by
  unfold rdTab2 ckBits
  rw [if_neg (by exact not_or.mpr ⟨Nat.not_lt.mpr (lin1 hx (by wtm_at "a")), not_or.mpr ⟨Nat.not_lt.mpr (lin1 hy (by wtm_at "a")), Nat.not_lt.mpr (lin1 hs (by wtm_at "a"))⟩⟩)]
  try rfl
theorem encBody_mark (T : Tb) (l : List UInt8) : encBody T ++ l = mark ++ (T.bo ++ (encVals T.ws ++ (encStage T.lows ++ (encStage T.mids ++ (encRow T.top ++ l))))) := by
  unfold encBody; simp only [List.append_assoc]
theorem Rs.behind (l : List UInt8) : Rs (mark ++ l) 4 l := ⟨mark, rfl, rfl⟩
theorem seal_mark (l : List UInt8) : rdTable (sealB (mark ++ l)) = rdTab (mark ++ l) := rdTable_seal (by rw [show (mark ++ l).drop 4 = l from List.drop_left (l₁ := mark)]; exact Rs.behind l) (List.take_left (l₁ := mark))
open PySem
theorem cut_mem {n : Nat} {cs : List Nat} {r : List (Nat × Nat)} (h : r ∈ cutRows n cs) : r = [(n, 0)] ∨ ∃ c k, c ∈ cs ∧ 1 ≤ k ∧ k ≤ cs.length ∧ r = [(c, 0), (n - c, k)] := by
  rcases List.mem_cons.mp h with h | h
  · exact .inl h
  · obtain ⟨⟨c, k⟩, hm, rfl⟩ := List.mem_map.mp h
    have := List.mem_zipIdx hm
    exact .inr ⟨c, k, this.2.2 ▸ List.getElem_mem _, this.1, by exact lin1 this.2.1 (by wtm_at "a"), rfl⟩
theorem row1_ok {n k below : Nat} (hn : 0 < n) (hn' : n < 2 ^ 35) (hk : k < below) (hk' : k < 2 ^ 35) : RowOk n below [(n, k)] := ⟨⟨hn, hn', hk, hk', nofun, trivial⟩, by simp, (by (show 1 < 2 ^ 35); decide)⟩
theorem row2_ok {n c j k below : Nat} (h1 : 0 < c) (h2 : c < n) (hn : n < 2 ^ 35) (hj : j < below) (hk : k < below) (hb : below < 2 ^ 35) (hjk : j ≠ k) : RowOk n below [(c, j), (n - c, k)] :=
  ⟨⟨h1, Nat.lt_trans h2 hn, hj, Nat.lt_trans hj hb, nofun, Nat.sub_pos_of_lt h2, Nat.lt_of_le_of_lt (Nat.sub_le ..) hn, hk, Nat.lt_trans hk hb, fun e => hjk (Option.some.inj e), trivial⟩, by simp; exact Nat.le_antisymm (lin1 (Nat.le_of_eq (Nat.sub_add_cancel (show c ≤ n from lin1 h2 (by wtm_at "a")))) (by wtm_at "a")) (lin1 (Nat.le_of_eq (Nat.sub_add_cancel (show c ≤ n from lin1 h2 (by wtm_at "a"))).symm) (by wtm_at "a")), (by (show 2 < 2 ^ 35); decide)⟩
theorem cut_ok {n below : Nat} {cs : List Nat} (hb : ∀ c ∈ cs, 1 ≤ c ∧ c < n) (h0 : 0 < n) (hn : n < 2 ^ 35) (hl : cs.length < below) (hs : below < 2 ^ 35) : ∀ r ∈ cutRows n cs, RowOk n below r := fun r hr => by
  rcases cut_mem hr with rfl | ⟨c, k, hc, h1, h2, rfl⟩
  · exact row1_ok h0 hn (by exact lin1 hl (by wtm_at "a")) (by decide)
  · have := hb c hc
    exact row2_ok (by exact lin1 this.1 (by wtm_at "a")) this.2 hn (by exact lin1 hl (by wtm_at "a")) (by exact lin2 hl h2 (by wtm_at "a")) hs (by exact Nat.ne_of_lt (lin1 h1 (by wtm_at "a")))
theorem zip_nodup (n : Nat) : ∀ (cs : List Nat) (k : Nat), ((cs.zipIdx k).map (cutRow n)).Nodup
  | [], _ => .nil
  | c :: cs, k => by
    rw [List.zipIdx_cons, List.map_cons, List.nodup_cons]
    refine ⟨fun h => ?_, zip_nodup n cs (k + 1)⟩
    obtain ⟨⟨c', k'⟩, hm, e⟩ := List.mem_map.mp h
    have := (List.mem_zipIdx hm).1
    simp only [cutRow, List.cons.injEq, Prod.mk.injEq] at e
    exact linF2 this (Nat.le_of_eq e.2.1.2) (by wtm_at "a")
theorem cut_nodup (n : Nat) (cs : List Nat) : (cutRows n cs).Nodup := by
  refine List.nodup_cons.mpr ⟨fun h => ?_, zip_nodup n cs 1⟩
  obtain ⟨x, _, e⟩ := List.mem_map.mp h
  cases e
theorem ord_zip (n : Nat) (rest : List (List (Nat × Nat))) : ∀ (cs : List Nat) (k : Nat), 1 ≤ k → ordRows ((cs.zipIdx k).map (cutRow n) ++ rest) k = ordRows rest (k + cs.length)
  | [], k, _ => by simp
  | c :: cs, k, h => by
    rw [List.zipIdx_cons, List.map_cons, List.cons_append, ordRows, cutRow]
    simp only [ordRuns, show ¬ 0 > k by exact Nat.not_lt.mpr ((by wtm_at "a")), show ¬ 0 = k by exact Nat.ne_of_lt (lin1 h (by wtm_at "a")), gt_iff_lt, Nat.lt_irrefl, if_false, if_true]
    rw [ord_zip n rest cs (k + 1) (by wtm_at "a"), List.length_cons]
    congr 1; exact Nat.le_antisymm ((by wtm_at "a")) ((by wtm_at "a"))
theorem ord_cut (n : Nat) (cs : List Nat) (rest : List (List (Nat × Nat))) : ordRows (cutRows n cs ++ rest) 0 = ordRows rest (cs.length + 1) := by
  rw [cutRows, List.cons_append, ordRows]
  simp only [ordRuns, gt_iff_lt, Nat.lt_irrefl, if_false, if_true]
  rw [ord_zip n rest cs 1 (by wtm_at "a"), Nat.add_comm]
noncomputable def sq (i c : Nat) : List (Nat × Nat) := (List.range' i c).map fun j => (1, j)
theorem ones_sq (k : Nat) : ones k = sq 0 k := by unfold ones sq; rw [List.range_eq_range']
theorem sq_ok {b m e : Nat} (hb4 : b ≤ 4) (he : e < b) (hm : 0 < m) (hm' : m < 2 ^ 35) (c : Nat) : ∀ (i : Nat) (o : Option Nat), i + c ≤ b → (0 < c → o ≠ some i) → (c = 0 → o ≠ some e) → (0 < c → i + c ≠ e + 1) →
    VR b o (sq i c ++ [(m, e)]) ∧ ((sq i c ++ [(m, e)]).map (·.1)).sum = c + m ∧ ordRuns (sq i c ++ [(m, e)]) i = ordRuns [(m, e)] (i + c) := by
  have big : ∀ x, x < b → x < 2 ^ 35 := fun x h => Nat.lt_of_lt_of_le h (Nat.le_trans hb4 (by decide))
  induction c with
  | zero => exact fun i o _ _ h _ => ⟨⟨hm, hm', he, big _ he, h rfl, trivial⟩, Nat.add_comm m 0, rfl⟩
  | succ c ih =>
    intro i o hb ho _ hn
    obtain ⟨h1, h2, h3⟩ := ih (i + 1) (some i) (by rw [Nat.add_right_comm]; exact hb) (fun _ q => Nat.ne_of_lt (Nat.lt_succ_self i) (Option.some.inj q)) (fun q e => by subst q; exact hn (Nat.succ_pos _) (congrArg (· + 1) (Option.some.inj e))) (fun _ => by rw [Nat.add_right_comm]; exact hn (Nat.succ_pos _))
    have hi : i < b := Nat.lt_of_lt_of_le (Nat.lt_add_of_pos_right (Nat.succ_pos c)) hb
    refine ⟨⟨Nat.zero_lt_one, by show 1 < 2 ^ 35; decide, hi, big _ hi, ho (Nat.succ_pos _), h1⟩, ?_, ?_⟩
    · show 1 + ((sq (i + 1) c ++ [(m, e)]).map (·.1)).sum = _
      rw [h2, ← Nat.add_assoc, Nat.add_comm 1 c]
    · show (if i > i then _ else ordRuns (sq (i + 1) c ++ [(m, e)]) (if i = i then i + 1 else i)) = _
      rw [if_neg (Nat.lt_irrefl i), if_pos rfl, h3, Nat.add_right_comm]
      rfl
theorem top_ok {n k : Nat} {last : Bool} (h1 : 1 ≤ k) (h4 : k ≤ 4) (hn : 17 ≤ n) (hn' : n < 2 ^ 30) (hl : last = false → 2 ≤ k) : RowOk n k (topRow n k last) ∧ ckOrder [topRow n k last] k = .ok () := by
  have fin : ∀ c m e, c ≤ k → e < k → 0 < m → m ≤ n → (0 < c → c ≠ e + 1) → c + m = n → ordRuns [(m, e)] c = .ok k → RowOk n k (ones c ++ [(m, e)]) ∧ ckOrder [ones c ++ [(m, e)]] k = .ok () := fun c m e hc he hm hmn hne hs ho => by
    rw [ones_sq]
    obtain ⟨v1, v2, v3⟩ := sq_ok h4 he hm (Nat.lt_trans (Nat.lt_of_le_of_lt hmn hn') (by decide)) c 0 none (by rw [Nat.zero_add]; exact hc) (fun _ => nofun) (fun _ => nofun) (fun h => by rw [Nat.zero_add]; exact hne h)
    rw [Nat.zero_add] at v3
    refine ⟨⟨v1, v2.trans hs, ?_⟩, ?_⟩
    · unfold sq
      rw [List.length_append, List.length_map, List.length_range']
      exact Nat.lt_of_le_of_lt (Nat.add_le_add_right (Nat.le_trans hc h4) 1) (by show 4 + 1 < 2 ^ 35; decide)
    · unfold ckOrder ordRows
      rw [v3, ho]
      exact if_neg (Nat.lt_irrefl k)
  have hkn : k ≤ n := Nat.le_trans h4 (Nat.le_trans (by decide) hn)
  unfold topRow
  cases last with
  | true =>
    rw [if_pos rfl]
    have hk : k - 1 + 1 = k := Nat.sub_add_cancel h1
    refine fin (k - 1) (n - k + 1) (k - 1) (Nat.sub_le _ _) (Nat.lt_of_lt_of_le (Nat.lt_succ_self _) (Nat.le_of_eq hk)) (Nat.succ_pos _) (Nat.lt_of_lt_of_le (Nat.sub_lt_of_pos_le h1 hkn) (Nat.le_refl n)) (fun _ => Nat.ne_of_lt (Nat.lt_succ_self _)) ?_ ?_
    · rw [Nat.add_comm (n - k) 1, ← Nat.add_assoc, hk, Nat.add_sub_cancel' hkn]
    · show (if k - 1 > k - 1 then _ else Except.ok (if k - 1 = k - 1 then k - 1 + 1 else k - 1)) = _
      rw [if_neg (Nat.lt_irrefl _), if_pos rfl, hk]
  | false =>
    rw [if_neg Bool.false_ne_true]
    have h2 := hl rfl
    refine fin k (n - k) 0 (Nat.le_refl _) h1 (Nat.sub_pos_of_lt (Nat.lt_of_le_of_lt h4 (Nat.lt_of_lt_of_le (by decide) hn))) (Nat.sub_le _ _) (fun _ => Nat.ne_of_gt h2) (Nat.add_sub_cancel' hkn) ?_
    show (if 0 > k then _ else Except.ok (if 0 = k then k + 1 else k)) = _
    rw [if_neg (Nat.not_lt_zero _), if_neg (Nat.ne_of_lt h1)]
theorem top_last (n k : Nat) (last : Bool) (h1 : 1 ≤ k) (h4 : k ≤ 4) : ∃ xs m j, topRow n k last = xs ++ [(m, j)] ∧ j < 128 := by
  unfold topRow
  cases last
  · exact ⟨_, _, _, rfl, by decide⟩
  · exact ⟨_, _, _, rfl, by exact lin2 h4 (Nat.le_of_eq (Nat.sub_add_cancel (show 1 ≤ k from lin1 h1 (by wtm_at "a")))) (by wtm_at "a")⟩
section
variable {H : Shape} (ok : H.Ok)
include ok
theorem Shape.bb : 6 ≤ H.lb ∧ H.lb ≤ 10 ∧ 4 ≤ H.mb ∧ H.mb ≤ 10 ∧ 12 ≤ H.lb + H.mb ∧ H.lb + H.mb ≤ 16 := by
  have b := bits_le ok.bits
  exact ⟨b.l6, b.l10, b.m4, b.m10, b.s12, b.s16⟩
theorem Shape.pp : 64 ≤ 2 ^ H.lb ∧ 2 ^ H.lb ≤ 1024 ∧ 16 ≤ 2 ^ H.mb ∧ 2 ^ H.mb ≤ 1024 := by
  have b := H.bb ok
  have P := fun (a b : Nat) (h : a ≤ b) => Nat.pow_le_pow_right (n := 2) (by decide) h
  exact ⟨P 6 _ b.1, P _ 10 b.2.1, P 4 _ b.2.2.1, P _ 10 b.2.2.2.1⟩
theorem Shape.nn : 17 ≤ H.size ∧ H.size ≤ 1114112 := by
  have b := H.bb ok
  refine ⟨?_, Nat.div_le_self ..⟩
  unfold Shape.size
  rw [Nat.le_div_iff_mul_le (Nat.pow_pos (by decide))]
  exact Nat.le_trans (Nat.mul_le_mul_left _ (Nat.pow_le_pow_right (by decide) b.2.2.2.2.2)) (by decide)
omit ok in
theorem Shape.wlen : H.ws.length = H.many := by unfold Shape.ws; rw [List.length_map, List.length_range]
theorem Shape.wsFacts : H.ws.Nodup ∧ (∀ v ∈ H.ws, v.length ≤ 2) ∧ [122, 122] ∉ H.ws ∧ [121, 121, 121] ∉ H.ws := by
  have key : ∀ (m : Fin 4) (t : Fin 3), ((List.range m.val).map fun p => worthL.getD ((p + t.val) % 3) []).Nodup ∧ (((List.range m.val).map fun p => worthL.getD ((p + t.val) % 3) []).all fun v => decide (v.length ≤ 2)) = true ∧ [122, 122] ∉ ((List.range m.val).map fun p => worthL.getD ((p + t.val) % 3) []) ∧ [121, 121, 121] ∉ ((List.range m.val).map fun p => worthL.getD ((p + t.val) % 3) []) := by decide
  obtain ⟨h1, h2, h3, h4⟩ := key ⟨H.many, by have := ok.m3; exact lin1 this (by wtm_at "a")⟩ ⟨H.turned, ok.tu⟩
  exact ⟨h1, fun v hv => of_decide_eq_true (List.all_eq_true.mp h2 v hv), h3, h4⟩
theorem Shape.klen : 1 ≤ H.mids.length ∧ H.mids.length ≤ 4 ∧ H.mids.length = H.lows.length ∧ H.lows.length = H.ds.length + 1 := by
  have h1 := H.mids_len ok
  have h2 := H.lows_le ok
  have h3 := ok.dn
  exact ⟨lin2 (Nat.le_of_eq h1.symm) (Nat.le_of_eq h3) (by wtm_at "a"), ⟨lin2 (Nat.le_of_eq h1) h2.2 (by wtm_at "a"), ⟨Nat.le_antisymm (lin1 (Nat.le_of_eq h1) (by wtm_at "a")) (lin1 (Nat.le_of_eq h1.symm) (by wtm_at "a")), Nat.le_antisymm (lin1 (Nat.le_of_eq h3.symm) (by wtm_at "a")) (lin1 (Nat.le_of_eq h3) (by wtm_at "a"))⟩⟩⟩
theorem Shape.lowsOk : ∀ r ∈ H.lows, RowOk (2 ^ H.lb) H.ws.length r := by
  have p := H.pp ok
  have c := ok.cn
  have m := ok.m3
  rw [H.wlen]
  intro r hr
  unfold Shape.lows at hr
  rcases List.mem_append.mp hr with hr | hr
  · exact cut_ok ok.cb (by exact lin1 p.1 (by wtm_at "a")) (by exact lin1 (b := 34359738368) p.2.1 (by wtm_at "a")) (by exact lin1 (Nat.le_of_eq c) (by wtm_at "a")) (by exact lin1 (b := 34359738368) m (by wtm_at "a")) r hr
  · cases he : H.ex with
    | false => rw [he] at hr; cases hr
    | true =>
      rw [he] at hr
      rw [List.mem_singleton.mp hr]
      have := ok.ex he
      exact row1_ok (by exact lin1 p.1 (by wtm_at "a")) (by exact lin1 (b := 34359738368) p.2.1 (by wtm_at "a")) (by exact lin1 this (by wtm_at "a")) (by decide)
theorem Shape.lowsNd : H.lows.Nodup := by
  unfold Shape.lows
  cases he : H.ex with
  | false => simpa using cut_nodup _ _
  | true =>
    rw [if_pos rfl, List.nodup_append]
    refine ⟨cut_nodup _ _, by simp, fun a ha b hb e => ?_⟩
    rw [List.mem_singleton.mp hb] at e
    subst e
    rcases cut_mem ha with e | ⟨c, k, _, _, _, e⟩
    · simp at e
    · cases e
theorem Shape.midsOk : ∀ r ∈ H.mids, RowOk (2 ^ H.mb) H.lows.length r := by
  have p := H.pp ok
  have k := H.klen ok
  exact cut_ok ok.db (by exact lin1 p.2.2.1 (by wtm_at "a")) (by exact lin1 (b := 34359738368) p.2.2.2 (by wtm_at "a")) (by exact lin1 (Nat.le_of_eq k.2.2.2.symm) (by wtm_at "a")) (by exact lin2 (b := 34359738368) k.2.1 (Nat.le_of_eq k.2.2.1.symm) (by wtm_at "a"))
omit ok in
theorem Shape.midsNd : H.mids.Nodup := cut_nodup _ _
theorem Shape.lowsOrd (rest : List (List (Nat × Nat))) : ordRows (H.lows ++ rest) 0 = ordRows rest H.many := by
  have c := ok.cn
  unfold Shape.lows
  rw [List.append_assoc, ord_cut, c]
  cases he : H.ex with
  | false => rfl
  | true =>
    have := ok.ex he
    rw [if_pos rfl, List.singleton_append, ordRows]
    simp only [ordRuns, gt_iff_lt, show ¬ H.many < 1 by exact Nat.not_lt.mpr (lin1 this (by wtm_at "a")), show ¬ 1 = H.many by exact Nat.ne_of_lt (lin1 this (by wtm_at "a")), if_false]
theorem Shape.midsOrd (rest : List (List (Nat × Nat))) : ordRows (H.mids ++ rest) 0 = ordRows rest H.lows.length := by
  have k := H.klen ok
  unfold Shape.mids
  rw [ord_cut, k.2.2.2]
theorem Shape.topOk : RowOk H.size H.mids.length H.top ∧ ckOrder [H.top] H.mids.length = .ok () := by
  have k := H.klen ok
  have n := H.nn ok
  exact top_ok k.1 k.2.1 n.1 (by exact lin1 (b := 1073741824) n.2 (by wtm_at "a")) ok.last
end
open PySem
noncomputable def tabT (b : List UInt8) (l m : Nat) (ws : List (List UInt8)) (lows mids : List (List (Nat × Nat))) (p : Nat) : Except Str Tab := match rdRow b (1114112 >>> (l + m)) mids.length p with
  | .error e => .error e
  | .ok (top, p3) => if p3 < b.length then .error "octets are left" else ckAll ⟨l, m, ws, lows, mids, top⟩
noncomputable def tabM (b : List UInt8) (l m : Nat) (ws : List (List UInt8)) (lows : List (List (Nat × Nat))) (p : Nat) : Except Str Tab := match rdStage b (1 <<< m) lows.length (1114112 >>> (l + m)) p with
  | .error e => .error e
  | .ok (mids, p2) => tabT b l m ws lows mids p2
theorem rdTab3_ok {b : List UInt8} {l m p q : Nat} {ws : List (List UInt8)} {lows : List (List (Nat × Nat))} (h : rdStage b (1 <<< l) ws.length (1114112 >>> l) p = .ok (lows, q)) : rdTab3 b l m ws p = tabM b l m ws lows q := by
  unfold rdTab3; rw [h]; rfl
theorem rdTab3_er {b : List UInt8} {l m p : Nat} {ws : List (List UInt8)} {e : Str} (h : rdStage b (1 <<< l) ws.length (1114112 >>> l) p = .error e) : rdTab3 b l m ws p = .error e := by
  unfold rdTab3; rw [h]
theorem tabM_er {b : List UInt8} {l m p : Nat} {ws : List (List UInt8)} {lows : List (List (Nat × Nat))} {e : Str} (h : rdStage b (1 <<< m) lows.length (1114112 >>> (l + m)) p = .error e) : tabM b l m ws lows p = .error e := by
  unfold tabM; rw [h]
theorem tabT_er {b : List UInt8} {l m p : Nat} {ws : List (List UInt8)} {lows mids : List (List (Nat × Nat))} {e : Str} (h : rdRow b (1114112 >>> (l + m)) mids.length p = .error e) : tabT b l m ws lows mids p = .error e := by
  unfold tabT; rw [h]
noncomputable def finR (size : Nat) : Except Str (List (Nat × Nat) × Nat × Nat) → Except Str (List (Nat × Nat) × Nat)
  | .error e => .error e
  | .ok (runs, p2, filled) => if filled < size then .error "a row has another size" else .ok (runs, p2)
theorem Rs.rowStart {b l : List UInt8} {size below p m k : Nat} {r : List (Nat × Nat)} (h : Rs b p (encRow ((m, k) :: r) ++ l)) (hm : m < 2 ^ 35) (hk : k < 2 ^ 35) (hl : r.length + 1 < 2 ^ 35) :
    ∃ q, rdRow b size below p = finR size (if m = 0 ∨ 0 + m > size then .error "a row has another size" else if k ≥ below then .error "a number of nothing" else rdRuns b size below r.length q [(m, k)] (0 + m)) ∧ Rs b q (encPs r ++ l) := by
  unfold encRow at h
  rw [List.append_assoc, encPs_cons] at h
  obtain ⟨q1, e1, h1⟩ := h.num hl
  obtain ⟨q2, e2, h2⟩ := h1.num hm
  obtain ⟨q3, e3, h3⟩ := h2.num hk
  refine ⟨q3, ?_, h3⟩
  unfold rdRow
  rw [e1]
  dsimp only
  rw [List.length_cons, rdRuns, e2]
  dsimp only
  rw [e3]
  dsimp only
  rw [if_neg (show ¬ Option.map (fun x : Nat × Nat => x.2) ([] : List (Nat × Nat)).getLast? = some k from nofun), List.nil_append]
  rfl
theorem Rs.stageFirst {b l : List UInt8} {size below most p : Nat} {r : List (Nat × Nat)} {rows : List (List (Nat × Nat))} {e : Str} (h : Rs b p (encStage (r :: rows) ++ l)) (hm : rows.length + 1 ≤ most) (hl : rows.length + 1 < 2 ^ 35)
    (he : ∀ q l, Rs b q (encRow r ++ l) → rdRow b size below q = .error e) : rdStage b size below most p = .error e := by
  unfold encStage at h
  rw [List.append_assoc, List.map_cons, List.flatten_cons, List.append_assoc] at h
  obtain ⟨q1, e1, h1⟩ := h.num hl
  unfold rdStage
  rw [e1]
  dsimp only
  rw [if_neg (by rw [List.length_cons]; exact Nat.not_lt.mpr (lin1 hm (by wtm_at "a"))), List.length_cons, rdRows, he _ _ h1]
theorem Rs.stageMore {b l : List UInt8} {size below most p n : Nat} (h : Rs b p (encN n ++ l)) (hn : n < 2 ^ 35) (hm : n > most) : rdStage b size below most p = .error "more blocks than places" := by
  obtain ⟨q1, e1, h1⟩ := h.num hn
  unfold rdStage
  rw [e1]
  dsimp only
  rw [if_pos hm]
theorem Rs.stageTwice {b l : List UInt8} {size below most p : Nat} {rows : List (List (Nat × Nat))} {r : List (Nat × Nat)} (h : Rs b p (encStage (rows ++ [r]) ++ l)) (hv : ∀ r ∈ rows, RowOk size below r) (nd : rows.Nodup) (hr : r ∈ rows) (hm : rows.length + 1 ≤ most) (hl : rows.length + 1 < 2 ^ 35) :
    rdStage b size below most p = .error "a block stands twice" := by
  unfold encStage at h
  rw [List.append_assoc, List.length_append, List.map_append, List.flatten_append, List.append_assoc] at h
  obtain ⟨q, e, hq⟩ := Rs.stageK (k := 1) (size := size) (below := below) (most := most) h hv nd hm hl
  have o := hv r hr
  rw [show ([r].map encRow).flatten = encRow r by simp] at hq
  obtain ⟨q', e', _⟩ := hq.row o.v o.s o.l
  rw [e, rdRows, e']
  dsimp only
  rw [if_pos hr]
theorem Rs.valsTwice {b l : List UInt8} {p : Nat} {ws : List (List UInt8)} {v : List UInt8} (h : Rs b p (encVals (ws ++ [v]) ++ l)) (hv : ∀ v ∈ ws, v.length < 2 ^ 35) (nd : ws.Nodup) (hr : v ∈ ws) (hl : ws.length + 1 < 2 ^ 35) : rdValues b p = .error "a value stands twice" := by
  unfold encVals at h
  rw [List.append_assoc, List.length_append, List.map_append, List.flatten_append, List.append_assoc] at h
  obtain ⟨q, e, hq⟩ := Rs.valuesK (k := 1) h hv nd hl
  rw [show ([v].map fun v => encN v.length ++ v).flatten = encN v.length ++ v by simp, List.append_assoc] at hq
  obtain ⟨q1, e1, h1⟩ := hq.num (hv v hr)
  rw [e, rdVals, e1]
  dsimp only
  rw [h1.part]
  dsimp only
  rw [if_pos hr]
theorem body_eq (T : Tb) {l m : Nat} (hb : T.bo = encN l ++ encN m) (t : List UInt8) : encBody T ++ t = mark ++ (encN l ++ (encN m ++ (encVals T.ws ++ (encStage T.lows ++ (encStage T.mids ++ (encRow T.top ++ t)))))) := by
  rw [encBody_mark, hb, List.append_assoc]
section
variable {H : Shape} (ok : H.Ok)
include ok
theorem Shape.sh : 1 <<< H.lb = 2 ^ H.lb ∧ 1 <<< H.mb = 2 ^ H.mb ∧ 1114112 >>> H.lb = 1114112 / 2 ^ H.lb ∧ 1114112 >>> (H.lb + H.mb) = H.size ∧ 1088 ≤ 1114112 / 2 ^ H.lb := by
  have p := H.pp ok
  refine ⟨Nat.one_shiftLeft _, Nat.one_shiftLeft _, Nat.shiftRight_eq_div_pow .., Nat.shiftRight_eq_div_pow .., ?_⟩
  rw [Nat.le_div_iff_mul_le (by exact lin1 p.1 (by wtm_at "a"))]
  exact Nat.le_trans (Nat.mul_le_mul_left _ p.2.1) (by decide)
theorem Shape.upVals {ws : List (List UInt8)} {t : List UInt8} (hv : ∀ v ∈ ws, v.length < 2 ^ 35) (nd : ws.Nodup) (hl : ws.length < 2 ^ 35) :
    ∃ q, rdTab (mark ++ (encN H.lb ++ (encN H.mb ++ (encVals ws ++ t)))) = rdTab3 (mark ++ (encN H.lb ++ (encN H.mb ++ (encVals ws ++ t)))) H.lb H.mb ws q ∧ Rs (mark ++ (encN H.lb ++ (encN H.mb ++ (encVals ws ++ t)))) q t := by
  have b := H.bb ok
  obtain ⟨q1, e1, h1⟩ := (Rs.behind (encN H.lb ++ (encN H.mb ++ (encVals ws ++ t)))).bits (by exact lin1 (b := 34359738368) b.2.1 (by wtm_at "a")) (by exact lin1 (b := 34359738368) b.2.2.2.1 (by wtm_at "a"))
  obtain ⟨q2, e2, h2⟩ := h1.values hv nd hl
  exact ⟨q2, by rw [e1, rdTab2_ok (by exact lin1 b.1 (by wtm_at "a")) (by exact lin1 b.2.2.1 (by wtm_at "a")) (by exact lin1 b.2.2.2.2.2 (by wtm_at "a")), e2], h2⟩
theorem Shape.wsV : ∀ v ∈ H.ws, v.length < 2 ^ 35 := fun v hv => by have := (H.wsFacts ok).2.1 v hv; exact lin1 (b := 34359738368) this (by wtm_at "a")
theorem Shape.wsL : H.ws.length ≤ 3 ∧ 1 ≤ H.ws.length := by rw [H.wlen]; exact ⟨ok.m3, ok.m1⟩
theorem Shape.upLows {T : Tb} (hb : T.bo = encN H.lb ++ encN H.mb) (hv : ∀ v ∈ T.ws, v.length < 2 ^ 35) (nd : T.ws.Nodup) (hl : T.ws.length < 2 ^ 35) (t : List UInt8) :
    ∃ q, rdTable (sealB (encBody T ++ t)) = rdTab3 (encBody T ++ t) H.lb H.mb T.ws q ∧ Rs (encBody T ++ t) q (encStage T.lows ++ (encStage T.mids ++ (encRow T.top ++ t))) := by
  rw [body_eq T hb, seal_mark]
  exact H.upVals ok hv nd hl
theorem Shape.thLows {b t : List UInt8} {q : Nat} {ws : List (List UInt8)} {lows : List (List (Nat × Nat))} (h : Rs b q (encStage lows ++ t)) (hv : ∀ r ∈ lows, RowOk (2 ^ H.lb) ws.length r) (nd : lows.Nodup) (hl : lows.length ≤ 10) :
    ∃ q', rdTab3 b H.lb H.mb ws q = tabM b H.lb H.mb ws lows q' ∧ Rs b q' t := by
  have s := H.sh ok
  obtain ⟨q', e, h'⟩ := h.stage (most := 1114112 >>> H.lb) hv nd (by rw [s.2.2.1]; exact lin2 hl s.2.2.2.2 (by wtm_at "a")) (by exact lin1 (b := 34359738368) hl (by wtm_at "a"))
  exact ⟨q', rdTab3_ok (by rw [s.1]; exact e), h'⟩
theorem Shape.thMids {b t : List UInt8} {q : Nat} {ws : List (List UInt8)} {lows mids : List (List (Nat × Nat))} (h : Rs b q (encStage mids ++ t)) (hv : ∀ r ∈ mids, RowOk (2 ^ H.mb) lows.length r) (nd : mids.Nodup) (hl : mids.length ≤ 10) :
    ∃ q', tabM b H.lb H.mb ws lows q = tabT b H.lb H.mb ws lows mids q' ∧ Rs b q' t := by
  have s := H.sh ok
  have n := H.nn ok
  obtain ⟨q', e, h'⟩ := h.stage (most := 1114112 >>> (H.lb + H.mb)) hv nd (by rw [s.2.2.2.1]; exact lin2 hl n.1 (by wtm_at "a")) (by exact lin1 (b := 34359738368) hl (by wtm_at "a"))
  exact ⟨q', by unfold tabM; rw [s.2.1, e], h'⟩
theorem Shape.thTop {b t : List UInt8} {q : Nat} {ws : List (List UInt8)} {lows mids : List (List (Nat × Nat))} {top : List (Nat × Nat)} (h : Rs b q (encRow top ++ t)) (hv : RowOk H.size mids.length top) :
    tabT b H.lb H.mb ws lows mids q = if t = [] then ckAll ⟨H.lb, H.mb, ws, lows, mids, top⟩ else .error "octets are left" := by
  have s := H.sh ok
  obtain ⟨q', e, h'⟩ := h.row hv.v hv.s hv.l
  have hl := h'.len
  unfold tabT
  rw [s.2.2.2.1, e]
  dsimp only
  cases t with
  | nil => rw [List.length_nil] at hl; rw [if_neg (by exact Nat.not_lt.mpr (lin1 (Nat.le_of_eq hl.symm) (by wtm_at "a"))), if_pos rfl]
  | cons x t => rw [List.length_cons] at hl; rw [if_pos (by exact lin1 (Nat.le_of_eq hl) (by wtm_at "a")), if_neg nofun]
theorem Shape.whole {T : Tb} (hb : T.bo = encN H.lb ++ encN H.mb) (hv : ∀ v ∈ T.ws, v.length < 2 ^ 35) (nd : T.ws.Nodup) (hl : T.ws.length < 2 ^ 35)
    (lv : ∀ r ∈ T.lows, RowOk (2 ^ H.lb) T.ws.length r) (ln : T.lows.Nodup) (ll : T.lows.length ≤ 10) (mv : ∀ r ∈ T.mids, RowOk (2 ^ H.mb) T.lows.length r) (mn : T.mids.Nodup) (ml : T.mids.length ≤ 10) (tv : RowOk H.size T.mids.length T.top) (t : List UInt8) :
    rdTable (sealB (encBody T ++ t)) = if t = [] then ckAll ⟨H.lb, H.mb, T.ws, T.lows, T.mids, T.top⟩ else .error "octets are left" := by
  obtain ⟨q1, e1, h1⟩ := H.upLows ok hb hv nd hl t
  obtain ⟨q2, e2, h2⟩ := H.thLows ok h1 lv ln ll
  obtain ⟨q3, e3, h3⟩ := H.thMids ok h2 mv mn ml
  rw [e1, e2, e3, H.thTop ok h3 tv]
end
open PySem
noncomputable def Shape.tab (H : Shape) : Tab := ⟨H.lb, H.mb, H.ws, H.lows, H.mids, H.top⟩
theorem VR.small {below : Nat} : ∀ {ps : List (Nat × Nat)} {o : Option Nat}, VR below o ps → ∀ p ∈ ps, SmallP p
  | [], _, _ => fun p h => nomatch h
  | x :: ps, _, ⟨_, h2, _, h4, _, h6⟩ => fun p hp => by
    rcases List.mem_cons.mp hp with rfl | hp
    · exact ⟨Nat.lt_trans h2 (by decide), Nat.lt_trans h4 (by decide)⟩
    · exact VR.small h6 p hp
theorem cut_small {n m : Nat} {cs : List Nat} (h : ∀ r ∈ cutRows n cs, RowOk n m r) : ∀ r ∈ cutRows n cs, SmallRow 100 r := fun r hr => by
  refine ⟨?_, (h r hr).v.small⟩
  rcases cut_mem hr with rfl | ⟨c, k, _, _, _, rfl⟩ <;> exact nb rfl
theorem encBody0 (T : Tb) : encBody T = mark ++ (T.bo ++ (encVals T.ws ++ (encStage T.lows ++ (encStage T.mids ++ encRow T.top)))) := by
  unfold encBody; simp only [List.append_assoc]
theorem rdTab_er {b : List UInt8} {e : Str} (h : rdNum b 4 = .error e) : rdTab b = .error e := by unfold rdTab; rw [h]
theorem rdTab2_er {b : List UInt8} {x y p : Nat} {e : Str} (hx : 1 ≤ x) (hy : 1 ≤ y) (hs : x + y ≤ 16) (h : rdValues b p = .error e) : rdTab2 b x y p = .error e := by rw [rdTab2_ok hx hy hs, h]
theorem sums_fst : ∀ (b : List UInt8) (x : Nat × Nat), x.1 < 65521 → (b.foldl sumStep x).1 = (x.1 + (b.map (·.toNat)).sum) % 65521
  | [], x, h => by simp [Nat.mod_eq_of_lt h]
  | c :: b, x, h => by
    rw [List.foldl_cons, sums_fst b _ (Nat.mod_lt _ (by decide)), List.map_cons, List.sum_cons]
    show ((x.1 + c.toNat) % 65521 + _) % 65521 = _
    rw [Nat.mod_add_mod, Nat.add_assoc]
theorem sumB_ne {b c : List UInt8} (h : (sums b).1 ≠ (sums c).1) : sumB b ≠ sumB c := fun e => by
  have h1 := (sums_lt b).1
  have h2 := (sums_lt c).1
  unfold sumB at e
  simp only [List.cons.injEq, and_true] at e
  have e1 := congrArg UInt8.toNat e.2.2.1
  have e2 := congrArg UInt8.toNat e.2.2.2
  simp only [Nat.toUInt8_eq, UInt8.toNat_ofNat'] at e1 e2
  omega
theorem sum_set : ∀ (l : List Nat) (i y : Nat) (h : i < l.length), (l.set i y).sum + l[i] = l.sum + y
  | x :: l, 0, y, _ => by simp; exact Nat.le_antisymm ((by wtm_at "a")) ((by wtm_at "a"))
  | x :: l, i + 1, y, h => by
    have := sum_set l i y (by simpa using h)
    simp only [List.set_cons_succ, List.sum_cons, List.getElem_cons_succ]
    omega
theorem rdSum_bad {c S : List UInt8} (hS : S.length = 4) (hc : 4 ≤ c.length) (hm : c.take 4 = mark) (hne : S ≠ sumB c) : rdTable (c ++ S) = .error "another sum" := by
  unfold rdTable rdSum
  have e1 : (c ++ S).length - 4 = c.length := by rw [List.length_append, hS]; exact Nat.le_antisymm (lin1 (Nat.le_of_eq (Nat.sub_add_cancel (show 4 ≤ c.length + 4 from (by wtm_at "a")))) (by wtm_at "a")) (lin1 (Nat.le_of_eq (Nat.sub_add_cancel (show 4 ≤ c.length + 4 from (by wtm_at "a"))).symm) (by wtm_at "a"))
  rw [e1, List.drop_left, List.take_left, if_neg, if_pos hne]
  rw [List.length_append, hS, List.take_append_of_le_length hc]
  exact fun q => q.elim (fun q => by exact linF2 hc q (by wtm_at "a")) fun q => q hm
section
variable {H : Shape} (ok : H.Ok)
include ok
theorem Shape.lowsSmall : ∀ r ∈ H.lows, SmallRow 100 r := fun r hr => by
  refine ⟨?_, (H.lowsOk ok r hr).v.small⟩
  unfold Shape.lows at hr
  rcases List.mem_append.mp hr with hr | hr
  · rcases cut_mem hr with rfl | ⟨c, k, _, _, _, rfl⟩ <;> exact nb rfl
  · split at hr
    · rw [List.mem_singleton.mp hr]; exact nb rfl
    · cases hr
theorem Shape.topSmall : SmallRow 100 H.top := by
  refine ⟨?_, (H.topOk ok).1.v.small⟩
  have k := H.klen ok
  show (topRow H.size H.mids.length H.last).length ≤ 100
  unfold topRow ones
  split <;> simp <;> omega
theorem Shape.tbOk : H.tb.Ok where
  b1 := by have := H.bb ok; show H.lb ≤ 60; exact lin1 this.2.1 (by wtm_at "a")
  b2 := by have := H.bb ok; show H.mb ≤ 60; exact lin1 this.2.2.2.1 (by wtm_at "a")
  bo := by
    have b := H.bb ok
    have h1 := encN_le H.lb (by exact lin1 (b := 9223372036854775808) b.2.1 (by wtm_at "a"))
    have h2 := encN_le H.mb (by exact lin1 (b := 9223372036854775808) b.2.2.2.1 (by wtm_at "a"))
    show (encN H.lb ++ encN H.mb).length ≤ 100
    rw [List.length_append]; exact lin2 h1 h2 (by wtm_at "a")
  wn := by have := H.wsL ok; show H.ws.length ≤ 100; exact lin1 this.1 (by wtm_at "a")
  wl := fun r hr => by have := (H.wsFacts ok).2.1 r hr; exact lin1 this (by wtm_at "a")
  ln := by have := H.lows_le ok; show H.lows.length ≤ 1000; exact lin1 this.2 (by wtm_at "a")
  ls := H.lowsSmall ok
  mn := by have := H.klen ok; show H.mids.length ≤ 1000; exact lin1 this.2.1 (by wtm_at "a")
  ms := cut_small (H.midsOk ok)
  ts := H.topSmall ok
theorem pu_small : H.tab.Small := let o := Shape.tbOk ok; ⟨o.b1, o.b2, o.wn, o.wl, o.ln, o.ls, o.mn, o.ms, o.ts⟩
omit ok in
theorem pu_enc : encT H.tab = encBody H.tb := by unfold encT encBody; simp [Shape.tab, Shape.tb]
omit ok in
theorem pu_len : (encBody H.tb).length ≥ 4 := by rw [encBody0, List.length_append]; exact Nat.le_add_right _ _
omit ok in
theorem pu0 {n : Nat} (hn : n < 8) : rdTable ((sealB (encBody H.tb)).take n) = .error "no table" := by
  unfold rdTable rdSum
  rw [if_pos (.inl (by rw [List.length_take]; exact lin2 hn (show min n (sealB (encBody H.tb)).length ≤ n from Nat.min_le_left _ _) (by wtm_at "a")))]
omit ok in
theorem pu1 : rdTable (sealB ([85, 84, 82, 74] ++ (encBody H.tb).drop 4)) = .error "no table" := by
  have h : (sealB ([85, 84, 82, 74] ++ (encBody H.tb).drop 4)).take 4 ≠ mark := by
    unfold sealB
    rw [List.append_assoc]
    have e : ∀ l : List UInt8, (([85, 84, 82, 74] : List UInt8) ++ l).take 4 = [85, 84, 82, 74] := fun l => rfl
    rw [e]
    decide
  unfold rdTable rdSum
  rw [if_pos (.inr h)]
omit ok in
theorem pu2 {i d : Nat} (h4 : 4 ≤ i) (hi : i < (sealB (encBody H.tb)).length) (hd : d < 255) : rdTable ((sealB (encBody H.tb)).take i ++ [((((sealB (encBody H.tb)).getD i 0).toNat + 1 + d) % 256).toUInt8] ++ (sealB (encBody H.tb)).drop (i + 1)) = .error "another sum" := by
  have hl := pu_len (H := H)
  have hm : (encBody H.tb).take 4 = mark := by rw [encBody0]; exact List.take_left (l₁ := mark)
  generalize encBody H.tb = b at hl hm hi ⊢
  have hx : (sealB b).getD i 0 = (sealB b)[i] := by rw [List.getD_eq_getElem?_getD, List.getElem?_eq_getElem hi]; rfl
  rw [hx]
  generalize hy : ((((sealB b)[i]).toNat + 1 + d) % 256).toUInt8 = y
  have hne : y.toNat ≠ ((sealB b)[i]).toNat := by
    subst hy
    have := ((sealB b)[i]).toNat_lt
    simp only [Nat.toUInt8_eq, UInt8.toNat_ofNat']
    omega
  have hset : (sealB b).take i ++ [y] ++ (sealB b).drop (i + 1) = (sealB b).set i y := by
    rw [List.set_eq_take_append_cons_drop, if_pos hi, List.append_assoc]; rfl
  rw [hset]
  have hsl : (sealB b).length = b.length + 4 := by unfold sealB; rw [List.length_append, sumB_len]
  by_cases hib : i < b.length
  · have e1 : (sealB b)[i] = b[i] := by unfold sealB; exact List.getElem_append_left hib
    rw [e1] at hne
    unfold sealB
    rw [List.set_append_left _ _ hib]
    refine rdSum_bad (sumB_len b) (by rw [List.length_set]; exact lin1 hl (by wtm_at "a")) ?_ (sumB_ne fun e => ?_)
    · rw [List.take_set, List.set_eq_of_length_le (by rw [List.length_take]; exact lin2 h4 (show min 4 b.length ≤ 4 from Nat.min_le_left _ _) (by wtm_at "a"))]; exact hm
    · unfold sums at e
      rw [sums_fst _ _ (by decide), sums_fst _ _ (by decide), List.map_set] at e
      have := sum_set (b.map (·.toNat)) i y.toNat (by rw [List.length_map]; exact hib)
      rw [List.getElem_map] at this
      have l1 := (b[i]).toNat_lt
      have l2 := y.toNat_lt
      omega
  · have e1 : (sealB b)[i] = (sumB b)[i - b.length]'(by rw [sumB_len]; exact lin3 hi (Nat.le_of_eq hsl) (Nat.le_of_eq (Nat.sub_add_cancel (show b.length ≤ i from lin1 (Nat.le_of_not_lt hib) (by wtm_at "a")))) (by wtm_at "a")) := by unfold sealB; exact List.getElem_append_right (by exact lin1 (Nat.le_of_not_lt hib) (by wtm_at "a"))
    rw [e1] at hne
    unfold sealB
    rw [List.set_append_right _ _ (by exact lin1 (Nat.le_of_not_lt hib) (by wtm_at "a"))]
    refine rdSum_bad (by rw [List.length_set]; rfl) hl hm fun e => hne ?_
    have h2 : i - b.length < (sumB b).length := by rw [sumB_len]; exact lin3 hi (Nat.le_of_eq hsl) (Nat.le_of_eq (Nat.sub_add_cancel (show b.length ≤ i from lin1 (Nat.le_of_not_lt hib) (by wtm_at "a")))) (by wtm_at "a")
    have := List.getElem_set_self (l := sumB b) (i := i - b.length) (a := y) (by rw [List.length_set]; exact h2)
    rw [← this]
    simp only [e]
end
open PySem
theorem mark_get (l : List UInt8) (i : Nat) : (mark ++ l)[4 + i]? = l[i]? := by
  rw [List.getElem?_append_right (show mark.length ≤ 4 + i from Nat.le_add_right _ _)]
  congr 1
  show 4 + i - 4 = i
  exact Nat.le_antisymm (lin1 (Nat.le_of_eq (Nat.sub_add_cancel (show 4 ≤ 4 + i from (by wtm_at "a")))) (by wtm_at "a")) (lin1 (Nat.le_of_eq (Nat.sub_add_cancel (show 4 ≤ 4 + i from (by wtm_at "a"))).symm) (by wtm_at "a"))
theorem big8 {n : Nat} (h : n < 128) : ((n + 128).toUInt8).toNat = n + 128 := by
  simp only [Nat.toUInt8_eq, UInt8.toNat_ofNat']; omega
theorem Rs.rowCut {b : List UInt8} {size below p m : Nat} {xs : List (Nat × Nat)} (h : Rs b p (encN (xs.length + 1) ++ (encPs xs ++ encN m))) (hv : VR below none xs) (hs : (xs.map (·.1)).sum ≤ size) (hl : xs.length + 1 < 2 ^ 35) (hm : m < 2 ^ 35) : rdRow b size below p = .error "a number breaks off" := by
  obtain ⟨q1, e1, h1⟩ := h.num hl
  obtain ⟨q2, e2, h2⟩ := Rs.runs (size := size) (below := below) (k := 1) (f := 0) (runs := []) h1 hv (by exact lin1 hs (by wtm_at "a"))
  rw [← List.append_nil (encN m)] at h2
  obtain ⟨q3, e3, h3⟩ := h2.num hm
  unfold rdRow
  rw [e1]
  dsimp only
  rw [e2, rdRuns, e3]
  dsimp only
  rw [h3.stop]
section
variable {H : Shape} (ok : H.Ok)
include ok
theorem Shape.ckMids {n : Nat} : ckOrder H.mids n = if H.lows.length < n then .error "something that nothing names" else .ok () := by
  have := H.midsOrd ok []
  rw [List.append_nil] at this
  unfold ckOrder
  rw [this]; rfl
theorem Shape.ckLows {n : Nat} : ckOrder H.lows n = if H.many < n then .error "something that nothing names" else .ok () := by
  have := H.lowsOrd ok []
  rw [List.append_nil] at this
  unfold ckOrder
  rw [this]; rfl
theorem Shape.lens : H.ws.length ≤ 3 ∧ H.lows.length ≤ 4 ∧ H.mids.length ≤ 4 := by
  have h1 := H.wsL ok
  have h2 := H.lows_le ok
  have h3 := H.klen ok
  exact ⟨lin1 h1.1 (by wtm_at "a"), ⟨lin2 h3.2.1 (Nat.le_of_eq h3.2.2.1.symm) (by wtm_at "a"), lin1 h3.2.1 (by wtm_at "a")⟩⟩
theorem pu_ok : rdTable (sealB (encBody H.tb)) = .ok H.tab := by
  have l := H.lens ok
  have := H.whole ok (T := H.tb) rfl (H.wsV ok) (H.wsFacts ok).1 (show H.ws.length < _ by exact lin1 (b := 34359738368) l.1 (by wtm_at "a")) (H.lowsOk ok) (H.lowsNd ok) (show H.lows.length ≤ _ by exact lin1 l.2.1 (by wtm_at "a")) (H.midsOk ok) H.midsNd (show H.mids.length ≤ _ by exact lin1 l.2.2 (by wtm_at "a")) (H.topOk ok).1 []
  rw [List.append_nil, if_pos rfl] at this
  rw [this]
  unfold ckAll
  rw [show ckOrder [(⟨H.lb, H.mb, H.tb.ws, H.tb.lows, H.tb.mids, H.tb.top⟩ : Tab).top] (⟨H.lb, H.mb, H.tb.ws, H.tb.lows, H.tb.mids, H.tb.top⟩ : Tab).mids.length = .ok () from (H.topOk ok).2]
  dsimp only
  rw [show H.tb.mids = H.mids from rfl, show H.tb.lows = H.lows from rfl, show H.tb.ws = H.ws from rfl, H.ckMids ok, if_neg (by exact Nat.not_lt.mpr ((by wtm_at "a")))]
  dsimp only
  rw [H.ckLows ok, if_neg (by rw [H.wlen]; exact Nat.not_lt.mpr ((by wtm_at "a")))]
  rfl
theorem pu11 (x : UInt8) : rdTable (sealB (encBody H.tb ++ [x])) = .error "octets are left" := by
  have l := H.lens ok
  rw [H.whole ok (T := H.tb) rfl (H.wsV ok) (H.wsFacts ok).1 (show H.ws.length < _ by exact lin1 (b := 34359738368) l.1 (by wtm_at "a")) (H.lowsOk ok) (H.lowsNd ok) (show H.lows.length ≤ _ by exact lin1 l.2.1 (by wtm_at "a")) (H.midsOk ok) H.midsNd (show H.mids.length ≤ _ by exact lin1 l.2.2 (by wtm_at "a")) (H.topOk ok).1 [x], if_neg nofun]
omit ok in
theorem pu_bits {bo : List UInt8} {x y : Nat} (h : bo = encN x ++ encN y) (hx : x < 128) (hy : y < 128) (hb : x < 1 ∨ y < 1 ∨ x + y > 16) : rdTable (sealB (encBody { H.tb with bo := bo })) = .error "no such numbers of bits" := by
  rw [encBody0, seal_mark]
  subst h
  rw [List.append_assoc]
  obtain ⟨q, e, _⟩ := (Rs.behind (encN x ++ (encN y ++ _))).bits (by exact lin1 (b := 34359738368) hx (by wtm_at "a")) (by exact lin1 (b := 34359738368) hy (by wtm_at "a"))
  rw [e]
  unfold rdTab2 ckBits
  rw [if_pos hb]
omit ok in
theorem pu3 {bo : List UInt8} (hb : bo ∈ ([[0, 8], [8, 0], [9, 8]] : List (List UInt8))) : rdTable (sealB (encBody { H.tb with bo := bo })) = .error "no such numbers of bits" := by
  rcases (by simpa using hb : bo = [0, 8] ∨ bo = [8, 0] ∨ bo = [9, 8]) with rfl | rfl | rfl
  · exact pu_bits (x := 0) (y := 8) (by rw [encN_small (by decide), encN_small (by decide)]; rfl) (by decide) (by decide) (by decide)
  · exact pu_bits (x := 8) (y := 0) (by rw [encN_small (by decide), encN_small (by decide)]; rfl) (by decide) (by decide) (by decide)
  · exact pu_bits (x := 9) (y := 8) (by rw [encN_small (by decide), encN_small (by decide)]; rfl) (by decide) (by decide) (by decide)
theorem pu4 : rdTable (sealB (encBody { H.tb with bo := [(H.lb + 128).toUInt8, 0, H.mb.toUInt8] })) = .error "a number has needless pieces" := by
  have b := H.bb ok
  rw [encBody0, seal_mark]
  refine rdTab_er ?_
  unfold rdNum
  rw [rdN, mark_get _ 0]
  simp only [List.cons_append, List.getElem?_cons_zero]
  rw [big8 (by exact lin1 b.2.1 (by wtm_at "a")), if_neg (by exact Nat.not_lt.mpr ((by wtm_at "a"))), rdN, mark_get _ 1]
  rfl
theorem pu5 : rdTable (sealB (encBody { H.tb with bo := [(H.lb + 128).toUInt8, 128, 128, 128, 128, 1, 8] })) = .error "a number is too long" := by
  have b := H.bb ok
  rw [encBody0, seal_mark]
  refine rdTab_er ?_
  unfold rdNum
  rw [rdN, mark_get _ 0]
  simp only [List.cons_append, List.getElem?_cons_zero]
  rw [big8 (by exact lin1 b.2.1 (by wtm_at "a")), if_neg (by exact Nat.not_lt.mpr ((by wtm_at "a"))), rdN, mark_get _ 1]
  simp only [List.getElem?_cons_succ, List.getElem?_cons_zero]
  rw [if_neg (by decide), rdN, mark_get _ 2]
  simp only [List.getElem?_cons_succ, List.getElem?_cons_zero]
  rw [if_neg (by decide), rdN, mark_get _ 3]
  simp only [List.getElem?_cons_succ, List.getElem?_cons_zero]
  rw [if_neg (by decide), rdN, mark_get _ 4]
  simp only [List.getElem?_cons_succ, List.getElem?_cons_zero]
  rw [if_neg (by decide), rdN]
theorem pu6 : rdTable (sealB (encBody { H.tb with ws := H.ws ++ H.ws.take 1 })) = .error "a value stands twice" := by
  have b := H.bb ok
  have l := H.wsL ok
  obtain ⟨v, r, e⟩ : ∃ v r, H.ws = v :: r := by
    cases e : H.ws with
    | nil => rw [e] at l; exact absurd l.2 (by decide)
    | cons v r => exact ⟨v, r, rfl⟩
  have hm : v ∈ H.ws := by rw [e]; exact .head _
  rw [encBody0, seal_mark]
  show rdTab (mark ++ ((encN H.lb ++ encN H.mb) ++ _)) = _
  rw [List.append_assoc]
  obtain ⟨q1, e1, h1⟩ := (Rs.behind (encN H.lb ++ (encN H.mb ++ (encVals (H.ws ++ H.ws.take 1) ++ _)))).bits (by exact lin1 (b := 34359738368) b.2.1 (by wtm_at "a")) (by exact lin1 (b := 34359738368) b.2.2.2.1 (by wtm_at "a"))
  rw [e1]
  refine rdTab2_er (by exact lin1 b.1 (by wtm_at "a")) (by exact lin1 b.2.2.1 (by wtm_at "a")) (by exact lin1 b.2.2.2.2.2 (by wtm_at "a")) ?_
  rw [show H.ws.take 1 = [v] by rw [e]; rfl] at h1
  have := h1.valsTwice (H.wsV ok) (H.wsFacts ok).1 hm (by exact lin1 (b := 34359738368) l.1 (by wtm_at "a"))
  rw [show H.ws.take 1 = [v] by rw [e]; rfl]
  exact this
theorem Shape.badLow {r : List (Nat × Nat)} {e : Str} (he : ∀ b q l, Rs b q (encRow r ++ l) → rdRow b (2 ^ H.lb) H.ws.length q = .error e) : rdTable (sealB (encBody { H.tb with lows := [r] ++ H.lows.drop 1 })) = .error e := by
  have l := H.lens ok
  have s := H.sh ok
  have := H.upLows ok (T := { H.tb with lows := [r] ++ H.lows.drop 1 }) rfl (H.wsV ok) (H.wsFacts ok).1 (show H.ws.length < _ by exact lin1 (b := 34359738368) l.1 (by wtm_at "a")) []
  rw [List.append_nil] at this
  obtain ⟨q1, e1, h1⟩ := this
  rw [e1]
  refine rdTab3_er ?_
  rw [s.1]
  exact Rs.stageFirst (r := r) (rows := H.lows.drop 1) h1 (by rw [List.length_drop, s.2.2.1]; exact lin3 l.2.1 s.2.2.2.2 (show H.lows.length - 1 ≤ H.lows.length from Nat.sub_le _ _) (by wtm_at "a")) (by rw [List.length_drop]; exact lin2 (b := 34359738368) l.2.1 (show H.lows.length - 1 ≤ H.lows.length from Nat.sub_le _ _) (by wtm_at "a")) fun q l h => he _ q l h
theorem pu7 {m : Nat} (hm : m = 0 ∨ m = 2 ^ H.lb + 1 ∨ m = 2 ^ H.lb - 1) : rdTable (sealB (encBody { H.tb with lows := [[(m, 0)]] ++ H.lows.drop 1 })) = .error "a row has another size" := by
  have p := H.pp ok
  have w := H.wsL ok
  refine H.badLow ok fun b q l h => ?_
  have hm' : m ≤ 2 ^ H.lb + 1 := by
    rcases hm with q | q | q
    · rw [q]; exact Nat.zero_le _
    · exact Nat.le_of_eq q
    · rw [q]; exact Nat.le_trans (Nat.sub_le _ _) (Nat.le_succ _)
  obtain ⟨q', e, _⟩ := h.rowStart (size := 2 ^ H.lb) (below := H.ws.length) (Nat.lt_of_le_of_lt (Nat.le_trans hm' (Nat.add_le_add_right p.2.1 1)) (by decide)) (by decide) (by decide)
  rw [e]
  by_cases h1 : m = 0 ∨ 0 + m > 2 ^ H.lb
  · rw [if_pos h1]; rfl
  · rw [if_neg h1, if_neg (by exact Nat.not_le.mpr (lin1 w.2 (by wtm_at "a")))]
    show (if 0 + m < 2 ^ H.lb then _ else _) = _
    rw [if_pos]
    rw [Nat.zero_add] at h1 ⊢
    rcases hm with q | q | q
    · exact absurd (.inl q) h1
    · exact absurd (.inr (by rw [q]; exact Nat.lt_succ_self _)) h1
    · rw [q]; exact Nat.sub_lt (Nat.pow_pos (by decide)) (by decide)
theorem pu8 {p : Nat} (hp : p < 3) : rdTable (sealB (encBody { H.tb with lows := [[(2 ^ H.lb, H.ws.length + p)]] ++ H.lows.drop 1 })) = .error "a number of nothing" := by
  have pp := H.pp ok
  have w := H.wsL ok
  refine H.badLow ok fun b q l h => ?_
  obtain ⟨q', e, _⟩ := h.rowStart (size := 2 ^ H.lb) (below := H.ws.length) (by exact lin1 (b := 34359738368) pp.2.1 (by wtm_at "a")) (by exact lin2 (b := 34359738368) hp w.1 (by wtm_at "a")) (by decide)
  rw [e, if_neg (by exact not_or.mpr ⟨Nat.ne_of_gt (lin1 pp.1 (by wtm_at "a")), Nat.not_lt.mpr ((by wtm_at "a"))⟩), if_pos (by wtm_at "a")]
  rfl
theorem pu9 {p : Nat} (hp : p < 3) : rdTable (sealB (encBody { H.tb with lows := [[(1 + p, 0), (2 ^ H.lb - 1 - p, 0)]] ++ H.lows.drop 1 })) = .error "two runs are one" := by
  have pp := H.pp ok
  have w := H.wsL ok
  refine H.badLow ok fun b q l h => ?_
  obtain ⟨q', e, h'⟩ := h.rowStart (size := 2 ^ H.lb) (below := H.ws.length) (by exact lin1 (b := 34359738368) hp (by wtm_at "a")) (by decide) (by (show 1 + 1 < 2 ^ 35); decide)
  rw [encPs_cons] at h'
  obtain ⟨q2, e2, h2⟩ := h'.num (by show 2 ^ H.lb - 1 - p < _; exact lin3 (b := 34359738368) pp.2.1 (Nat.le_of_eq (Nat.sub_add_cancel (show 1 ≤ 2 ^ H.lb from lin1 pp.1 (by wtm_at "a")))) (Nat.le_of_eq (Nat.sub_add_cancel (show p ≤ 2 ^ H.lb - 1 from lin3 hp pp.1 (Nat.le_of_eq (Nat.sub_add_cancel (show 1 ≤ 2 ^ H.lb from lin1 pp.1 (by wtm_at "a"))).symm) (by wtm_at "a")))) (by wtm_at "a"))
  obtain ⟨q3, e3, h3⟩ := h2.num (by (show 0 < 2 ^ 35); decide)
  rw [e, if_neg (by exact not_or.mpr ⟨Nat.ne_of_gt ((by wtm_at "a")), Nat.not_lt.mpr (lin2 hp pp.1 (by wtm_at "a"))⟩), if_neg (by exact Nat.not_le.mpr (lin1 w.2 (by wtm_at "a"))), List.length_cons, rdRuns, e2]
  dsimp only
  rw [e3]
  dsimp only
  rw [if_neg (by exact not_or.mpr ⟨Nat.ne_of_gt (lin4 hp pp.1 (Nat.le_of_eq (Nat.sub_add_cancel (show 1 ≤ 2 ^ H.lb from lin1 pp.1 (by wtm_at "a"))).symm) (Nat.le_of_eq (Nat.sub_add_cancel (show p ≤ 2 ^ H.lb - 1 from lin3 hp pp.1 (Nat.le_of_eq (Nat.sub_add_cancel (show 1 ≤ 2 ^ H.lb from lin1 pp.1 (by wtm_at "a"))).symm) (by wtm_at "a"))).symm) (by wtm_at "a")), Nat.not_lt.mpr (lin2 (Nat.le_of_eq (Nat.sub_add_cancel (show 1 ≤ 2 ^ H.lb from lin1 pp.1 (by wtm_at "a")))) (Nat.le_of_eq (Nat.sub_add_cancel (show p ≤ 2 ^ H.lb - 1 from lin3 hp pp.1 (Nat.le_of_eq (Nat.sub_add_cancel (show 1 ≤ 2 ^ H.lb from lin1 pp.1 (by wtm_at "a"))).symm) (by wtm_at "a")))) (by wtm_at "a"))⟩), if_neg (by exact Nat.not_le.mpr (lin1 w.2 (by wtm_at "a"))), if_pos (show Option.map (fun x : Nat × Nat => x.2) [(1 + p, 0)].getLast? = some 0 from rfl)]
  rfl
theorem pu10 : rdTable (sealB (encBody { H.tb with mids := H.mids ++ H.mids.take 1 })) = .error "a block stands twice" := by
  have l := H.lens ok
  have k := H.klen ok
  have s := H.sh ok
  have n := H.nn ok
  obtain ⟨v, r, e⟩ : ∃ v r, H.mids = v :: r := ⟨_, _, rfl⟩
  have hm : v ∈ H.mids := by rw [e]; exact .head _
  have ht : H.mids.take 1 = [v] := by rw [e]; rfl
  have := H.upLows ok (T := { H.tb with mids := H.mids ++ H.mids.take 1 }) rfl (H.wsV ok) (H.wsFacts ok).1 (show H.ws.length < _ by exact lin1 (b := 34359738368) l.1 (by wtm_at "a")) []
  rw [List.append_nil] at this
  obtain ⟨q1, e1, h1⟩ := this
  obtain ⟨q2, e2, h2⟩ := H.thLows ok h1 (H.lowsOk ok) (H.lowsNd ok) (show H.lows.length ≤ 10 by exact lin2 k.2.1 (Nat.le_of_eq k.2.2.1.symm) (by wtm_at "a"))
  refine e1.trans (e2.trans (tabM_er ?_))
  rw [s.2.1, s.2.2.2.1]
  rw [show ({ H.tb with mids := H.mids ++ H.mids.take 1 } : Tb).mids = H.mids ++ [v] by rw [← ht]] at h2
  exact h2.stageTwice (H.midsOk ok) H.midsNd hm (by exact lin2 k.2.1 n.1 (by wtm_at "a")) (by exact lin1 (b := 34359738368) k.2.1 (by wtm_at "a"))
theorem pu12 : rdTable (sealB (encBody H.tb).dropLast) = .error "a number breaks off" := by
  have l := H.lens ok
  have k := H.klen ok
  have s := H.sh ok
  have t := (H.topOk ok).1
  obtain ⟨xs, m, j, et, hj⟩ := top_last H.size H.mids.length H.last k.1 k.2.1
  rw [show topRow H.size H.mids.length H.last = H.top from rfl] at et
  have e0 : (encBody H.tb).dropLast = mark ++ (encN H.lb ++ (encN H.mb ++ (encVals H.ws ++ (encStage H.lows ++ (encStage H.mids ++ (encN (xs.length + 1) ++ (encPs xs ++ encN m))))))) := by
    rw [encBody0, show H.tb.top = xs ++ [(m, j)] from et]
    show (mark ++ ((encN H.lb ++ encN H.mb) ++ (encVals H.ws ++ (encStage H.lows ++ (encStage H.mids ++ encRow (xs ++ [(m, j)])))))).dropLast = _
    unfold encRow
    rw [encPs_append, show encPs [(m, j)] = encN m ++ [j.toUInt8] by simp [encPs, encP, encN_small hj], List.length_append]
    simp only [← List.append_assoc, List.dropLast_concat]
    rfl
  rw [e0, seal_mark]
  obtain ⟨q1, e1, h1⟩ := H.upVals ok (ws := H.ws) (t := encStage H.lows ++ (encStage H.mids ++ (encN (xs.length + 1) ++ (encPs xs ++ encN m)))) (H.wsV ok) (H.wsFacts ok).1 (by exact lin1 (b := 34359738368) l.1 (by wtm_at "a"))
  obtain ⟨q2, e2, h2⟩ := H.thLows ok h1 (H.lowsOk ok) (H.lowsNd ok) (by exact lin2 k.2.1 (Nat.le_of_eq k.2.2.1.symm) (by wtm_at "a"))
  obtain ⟨q3, e3, h3⟩ := H.thMids ok h2 (H.midsOk ok) H.midsNd (by exact lin1 k.2.1 (by wtm_at "a"))
  rw [e1, e2, e3]
  refine tabT_er ?_
  rw [s.2.2.2.1]
  rw [et] at t
  have hv : ∀ {o : Option Nat} {ps qs : List (Nat × Nat)}, VR H.mids.length o (ps ++ qs) → VR H.mids.length o ps := fun {o ps qs} h => by
    induction ps generalizing o with
    | nil => trivial
    | cons x ps ih => exact ⟨h.1, h.2.1, h.2.2.1, h.2.2.2.1, h.2.2.2.2.1, ih h.2.2.2.2.2⟩
  have hs := t.s
  have hl := t.l
  rw [List.map_append, List.sum_append] at hs
  rw [List.length_append] at hl
  have sm := t.v.small (m, j) (by simp)
  have hm35 : m < 2 ^ 35 := by
    have := (H.nn ok).2
    simp at hs
    exact lin2 (b := 34359738368) this (Nat.le_of_eq hs) (by wtm_at "a")
  exact h3.rowCut (hv t.v) (by exact lin1 (Nat.le_of_eq hs) (by wtm_at "a")) hl hm35
theorem pu13 {p : Nat} (hp : p < 3) : rdTable (sealB ([85, 84, 82, 73] ++ [H.lb.toUInt8, H.mb.toUInt8] ++ [1] ++ encN (100 + p) ++ [97, 98, 99])) = .error "octets break off" := by
  have b := H.bb ok
  have e0 : [85, 84, 82, 73] ++ [H.lb.toUInt8, H.mb.toUInt8] ++ [1] ++ encN (100 + p) ++ [97, 98, 99] = mark ++ (encN H.lb ++ (encN H.mb ++ (encN 1 ++ (encN (100 + p) ++ [97, 98, 99])))) := by
    rw [encN_small (n := H.lb) (by exact lin1 b.2.1 (by wtm_at "a")), encN_small (n := H.mb) (by exact lin1 b.2.2.2.1 (by wtm_at "a")), encN_small (n := 1) (by decide)]
    simp only [List.append_assoc]; rfl
  rw [e0, seal_mark]
  obtain ⟨q1, e1, h1⟩ := (Rs.behind (encN H.lb ++ (encN H.mb ++ (encN 1 ++ (encN (100 + p) ++ [97, 98, 99]))))).bits (by exact lin1 (b := 34359738368) b.2.1 (by wtm_at "a")) (by exact lin1 (b := 34359738368) b.2.2.2.1 (by wtm_at "a"))
  rw [e1]
  refine rdTab2_er (by exact lin1 b.1 (by wtm_at "a")) (by exact lin1 b.2.2.1 (by wtm_at "a")) (by exact lin1 b.2.2.2.2.2 (by wtm_at "a")) ?_
  obtain ⟨q2, e2, h2⟩ := h1.num (by decide)
  obtain ⟨q3, e3, h3⟩ := h2.num (by exact lin1 (b := 34359738368) hp (by wtm_at "a"))
  unfold rdValues
  rw [e2]
  dsimp only
  rw [rdVals, e3]
  dsimp only
  unfold rdPart
  have := h3.len
  rw [if_pos (by rw [← this]; show q3 + (100 + p) > q3 + 3; exact (by wtm_at "a"))]
theorem pu14 {p : Nat} (hp : p < 3) : rdTable (sealB ([85, 84, 82, 73] ++ [H.lb.toUInt8, H.mb.toUInt8] ++ encVals H.ws ++ encN (1114112 / 2 ^ H.lb + 1 + p) ++ [1])) = .error "more blocks than places" := by
  have b := H.bb ok
  have s := H.sh ok
  have l := H.lens ok
  have e0 : [85, 84, 82, 73] ++ [H.lb.toUInt8, H.mb.toUInt8] ++ encVals H.ws ++ encN (1114112 / 2 ^ H.lb + 1 + p) ++ [1] = mark ++ (encN H.lb ++ (encN H.mb ++ (encVals H.ws ++ (encN (1114112 / 2 ^ H.lb + 1 + p) ++ [1])))) := by
    rw [encN_small (n := H.lb) (by exact lin1 b.2.1 (by wtm_at "a")), encN_small (n := H.mb) (by exact lin1 b.2.2.2.1 (by wtm_at "a"))]
    simp only [List.append_assoc]; rfl
  rw [e0, seal_mark]
  obtain ⟨q1, e1, h1⟩ := H.upVals ok (ws := H.ws) (t := encN (1114112 / 2 ^ H.lb + 1 + p) ++ [1]) (H.wsV ok) (H.wsFacts ok).1 (by exact lin1 (b := 34359738368) l.1 (by wtm_at "a"))
  rw [e1]
  have : 1114112 / 2 ^ H.lb ≤ 1114112 := Nat.div_le_self ..
  exact rdTab3_er (h1.stageMore (by exact lin2 (b := 34359738368) hp this (by wtm_at "a")) (by rw [s.2.2.1]; exact (by wtm_at "a")))
theorem Shape.moreVals {x : List UInt8} (hx : x.length ≤ 10) (hn : x ∉ H.ws) : rdTable (sealB (encBody { H.tb with ws := H.ws ++ [x] })) = .error "something that nothing names" := by
  have l := H.lens ok
  have hl : (H.ws ++ [x]).length = H.ws.length + 1 := by rw [List.length_append]; rfl
  have := H.whole ok (T := { H.tb with ws := H.ws ++ [x] }) rfl (fun v hv => by
      rcases List.mem_append.mp hv with hv | hv
      · exact H.wsV ok v hv
      · rw [List.mem_singleton.mp hv]; exact lin1 (b := 34359738368) hx (by wtm_at "a")) (by
      show (H.ws ++ [x]).Nodup
      rw [List.nodup_append]
      exact ⟨(H.wsFacts ok).1, by simp, fun a ha b hb e => hn (by rw [List.mem_singleton.mp hb] at e; exact e ▸ ha)⟩) (by show (H.ws ++ [x]).length < _; exact lin2 (b := 34359738368) l.1 (Nat.le_of_eq hl) (by wtm_at "a"))
    (fun r hr => (H.lowsOk ok r hr).le (by show _ ≤ (H.ws ++ [x]).length; exact lin1 (Nat.le_of_eq hl.symm) (by wtm_at "a"))) (H.lowsNd ok) (show H.lows.length ≤ _ by exact lin1 l.2.1 (by wtm_at "a")) (H.midsOk ok) H.midsNd (show H.mids.length ≤ _ by exact lin1 l.2.2 (by wtm_at "a")) (H.topOk ok).1 []
  rw [List.append_nil, if_pos rfl] at this
  rw [this]
  unfold ckAll
  rw [show ckOrder [H.tb.top] H.tb.mids.length = .ok () from (H.topOk ok).2]
  dsimp only
  rw [show H.tb.mids = H.mids from rfl, show H.tb.lows = H.lows from rfl, H.ckMids ok, if_neg (by exact Nat.not_lt.mpr ((by wtm_at "a")))]
  dsimp only
  rw [H.ckLows ok, if_pos (by rw [hl, H.wlen]; exact (by wtm_at "a"))]
theorem pu15 : rdTable (sealB (encBody { H.tb with ws := H.ws ++ [[122, 122]] })) = .error "something that nothing names" := H.moreVals ok (by decide) (H.wsFacts ok).2.2.1
theorem pu16a (h : H.ws.length = 1) : rdTable (sealB (encBody { H.tb with ws := H.ws ++ [[121, 121, 121]] })) = .error "something that nothing names" := H.moreVals ok (by decide) (H.wsFacts ok).2.2.2
theorem pu16b {p : Nat} (hp : p < 3) (h : H.ws.length ≠ 1) : rdTable (sealB (encBody { H.tb with lows := H.lows ++ [[(1 + p, 1), (2 ^ H.lb - 1 - p, 0)]] })) = .error "something that nothing names" := by
  have l := H.lens ok
  have w := H.wsL ok
  have pp := H.pp ok
  have hl : (H.lows ++ [[(1 + p, 1), (2 ^ H.lb - 1 - p, 0)]]).length = H.lows.length + 1 := by rw [List.length_append]; rfl
  have hr : RowOk (2 ^ H.lb) H.ws.length [(1 + p, 1), (2 ^ H.lb - 1 - p, 0)] := by
    have := row2_ok (n := 2 ^ H.lb) (c := 1 + p) (j := 1) (k := 0) (below := H.ws.length) (by wtm_at "a") (by exact lin2 hp pp.1 (by wtm_at "a")) (by exact lin1 (b := 34359738368) pp.2.1 (by wtm_at "a")) (by omega) (by exact lin1 w.2 (by wtm_at "a")) (by exact lin1 (b := 34359738368) w.1 (by wtm_at "a")) (by decide)
    rwa [show 2 ^ H.lb - (1 + p) = 2 ^ H.lb - 1 - p by exact Nat.le_antisymm (lin3 (Nat.le_of_eq (Nat.sub_add_cancel (show 1 + p ≤ 2 ^ H.lb from lin2 hp pp.1 (by wtm_at "a")))) (Nat.le_of_eq (Nat.sub_add_cancel (show 1 ≤ 2 ^ H.lb from lin1 pp.1 (by wtm_at "a"))).symm) (Nat.le_of_eq (Nat.sub_add_cancel (show p ≤ 2 ^ H.lb - 1 from lin3 hp pp.1 (Nat.le_of_eq (Nat.sub_add_cancel (show 1 ≤ 2 ^ H.lb from lin1 pp.1 (by wtm_at "a"))).symm) (by wtm_at "a"))).symm) (by wtm_at "a")) (lin3 (Nat.le_of_eq (Nat.sub_add_cancel (show 1 ≤ 2 ^ H.lb from lin1 pp.1 (by wtm_at "a")))) (Nat.le_of_eq (Nat.sub_add_cancel (show p ≤ 2 ^ H.lb - 1 from lin3 hp pp.1 (Nat.le_of_eq (Nat.sub_add_cancel (show 1 ≤ 2 ^ H.lb from lin1 pp.1 (by wtm_at "a"))).symm) (by wtm_at "a")))) (Nat.le_of_eq (Nat.sub_add_cancel (show 1 + p ≤ 2 ^ H.lb from lin2 hp pp.1 (by wtm_at "a"))).symm) (by wtm_at "a"))] at this
  have hn : [(1 + p, 1), (2 ^ H.lb - 1 - p, 0)] ∉ H.lows := fun hm => by
    unfold Shape.lows at hm
    rcases List.mem_append.mp hm with hm | hm
    · rcases cut_mem hm with e | ⟨c, k, _, _, _, e⟩
      · simp at e
      · simp at e
    · split at hm
      · have e := List.mem_singleton.mp hm; simp at e
      · cases hm
  have := H.whole ok (T := { H.tb with lows := H.lows ++ [[(1 + p, 1), (2 ^ H.lb - 1 - p, 0)]] }) rfl (H.wsV ok) (H.wsFacts ok).1 (show H.ws.length < _ by exact lin1 (b := 34359738368) w.1 (by wtm_at "a"))
    (fun r hr' => by
      rcases List.mem_append.mp hr' with q | q
      · exact H.lowsOk ok r q
      · rw [List.mem_singleton.mp q]; exact hr) (by
      show (H.lows ++ [_]).Nodup
      rw [List.nodup_append]
      exact ⟨H.lowsNd ok, by simp, fun a ha b hb e => hn (by rw [List.mem_singleton.mp hb] at e; exact e ▸ ha)⟩) (by show (H.lows ++ [_]).length ≤ _; exact lin2 l.2.1 (Nat.le_of_eq hl) (by wtm_at "a"))
    (fun r hr => (H.midsOk ok r hr).le (by show _ ≤ (H.lows ++ [_]).length; exact lin1 (Nat.le_of_eq hl.symm) (by wtm_at "a"))) H.midsNd (show H.mids.length ≤ _ by exact lin1 l.2.2 (by wtm_at "a")) (H.topOk ok).1 []
  rw [List.append_nil, if_pos rfl] at this
  rw [this]
  unfold ckAll
  rw [show ckOrder [H.tb.top] H.tb.mids.length = .ok () from (H.topOk ok).2]
  dsimp only
  rw [show H.tb.mids = H.mids from rfl, H.ckMids ok, if_pos (by rw [hl]; exact (by wtm_at "a"))]
theorem pu_topsum : 17 ≤ (H.top.map (·.1)).sum ∧ (H.top.map (·.1)).sum ≤ 1114112 := by
  rw [(H.topOk ok).1.s]; exact H.nn ok
theorem pu17 {p : Nat} (hp : p < 3) : rdTable (sealB (encBody { H.tb with top := [(1 + p, 1), ((H.top.map (·.1)).sum - 1 - p, 0)] })) = .error (if 1 < H.mids.length then "numbers in another order" else "a number of nothing") := by
  have l := H.lens ok
  have k := H.klen ok
  have n := H.nn ok
  have s := H.sh ok
  rw [(H.topOk ok).1.s]
  by_cases h1 : 1 < H.mids.length
  · have hr : RowOk H.size H.mids.length [(1 + p, 1), (H.size - 1 - p, 0)] := by
      have := row2_ok (n := H.size) (c := 1 + p) (j := 1) (k := 0) (below := H.mids.length) (by wtm_at "a") (by exact lin2 hp n.1 (by wtm_at "a")) (by exact lin1 (b := 34359738368) n.2 (by wtm_at "a")) (by exact lin1 h1 (by wtm_at "a")) (by exact lin1 h1 (by wtm_at "a")) (by exact lin1 (b := 34359738368) k.2.1 (by wtm_at "a")) (by decide)
      rwa [show H.size - (1 + p) = H.size - 1 - p by exact Nat.le_antisymm (lin3 (Nat.le_of_eq (Nat.sub_add_cancel (show 1 + p ≤ H.size from lin2 hp n.1 (by wtm_at "a")))) (Nat.le_of_eq (Nat.sub_add_cancel (show 1 ≤ H.size from lin1 n.1 (by wtm_at "a"))).symm) (Nat.le_of_eq (Nat.sub_add_cancel (show p ≤ H.size - 1 from lin3 hp n.1 (Nat.le_of_eq (Nat.sub_add_cancel (show 1 ≤ H.size from lin1 n.1 (by wtm_at "a"))).symm) (by wtm_at "a"))).symm) (by wtm_at "a")) (lin3 (Nat.le_of_eq (Nat.sub_add_cancel (show 1 ≤ H.size from lin1 n.1 (by wtm_at "a")))) (Nat.le_of_eq (Nat.sub_add_cancel (show p ≤ H.size - 1 from lin3 hp n.1 (Nat.le_of_eq (Nat.sub_add_cancel (show 1 ≤ H.size from lin1 n.1 (by wtm_at "a"))).symm) (by wtm_at "a")))) (Nat.le_of_eq (Nat.sub_add_cancel (show 1 + p ≤ H.size from lin2 hp n.1 (by wtm_at "a"))).symm) (by wtm_at "a"))] at this
    have := H.whole ok (T := { H.tb with top := [(1 + p, 1), (H.size - 1 - p, 0)] }) rfl (H.wsV ok) (H.wsFacts ok).1 (show H.ws.length < _ by exact lin1 (b := 34359738368) l.1 (by wtm_at "a")) (H.lowsOk ok) (H.lowsNd ok) (show H.lows.length ≤ _ by exact lin2 k.2.1 (Nat.le_of_eq k.2.2.1.symm) (by wtm_at "a")) (H.midsOk ok) H.midsNd (show H.mids.length ≤ _ by exact lin1 k.2.1 (by wtm_at "a")) hr []
    rw [List.append_nil, if_pos rfl] at this
    rw [this, if_pos h1]
    rfl
  · rw [if_neg h1]
    have := H.upLows ok (T := { H.tb with top := [(1 + p, 1), (H.size - 1 - p, 0)] }) rfl (H.wsV ok) (H.wsFacts ok).1 (show H.ws.length < _ by exact lin1 (b := 34359738368) l.1 (by wtm_at "a")) []
    obtain ⟨q1, e1, h1'⟩ := this
    obtain ⟨q2, e2, h2⟩ := H.thLows ok h1' (H.lowsOk ok) (H.lowsNd ok) (show H.lows.length ≤ 10 by exact lin2 k.2.1 (Nat.le_of_eq k.2.2.1.symm) (by wtm_at "a"))
    obtain ⟨q3, e3, h3⟩ := H.thMids ok h2 (H.midsOk ok) H.midsNd (show H.mids.length ≤ 10 by exact lin1 (Nat.le_of_not_lt h1) (by wtm_at "a"))
    rw [List.append_nil] at e1 e2 e3 h3
    refine e1.trans (e2.trans (e3.trans (tabT_er ?_)))
    rw [s.2.2.2.1]
    obtain ⟨q', e, _⟩ := h3.rowStart (size := H.size) (below := H.mids.length) (by exact lin1 (b := 34359738368) hp (by wtm_at "a")) (by decide) (by (show 1 + 1 < 2 ^ 35); decide)
    rw [show ({ H.tb with top := [(1 + p, 1), (H.size - 1 - p, 0)] } : Tb).mids = H.mids from rfl, e, if_neg (by exact not_or.mpr ⟨Nat.ne_of_gt ((by wtm_at "a")), Nat.not_lt.mpr (lin2 hp n.1 (by wtm_at "a"))⟩), if_pos (by exact lin1 (Nat.le_of_not_lt h1) (by wtm_at "a"))]
    rfl
end
open PySem
theorem atRow_eq : ∀ (ps : List (Nat × Nat)) (i : Nat), atRow ps i = (expand ps)[i]?
  | [], i => rfl
  | (m, k) :: ps, i => by
    have ih := atRow_eq ps
    unfold atRow expand
    rw [List.flatMap_cons]
    by_cases h : i < m
    · rw [if_pos h, List.getElem?_append_left (by simpa using h), List.getElem?_replicate, if_pos h]
    · rw [if_neg h, List.getElem?_append_right (by simpa using h), List.length_replicate, ih]
      rfl
theorem VR.below {b : Nat} : ∀ {ps : List (Nat × Nat)} {o : Option Nat}, VR b o ps → ∀ p ∈ ps, p.2 < b
  | [], _, _ => fun p h => nomatch h
  | x :: ps, _, ⟨_, _, h3, _, _, h6⟩ => fun p hp => by
    rcases List.mem_cons.mp hp with rfl | hp
    · exact h3
    · exact VR.below h6 p hp
theorem RowOk.at {size b : Nat} {ps : List (Nat × Nat)} (h : RowOk size b ps) {i : Nat} (hi : i < size) : ∃ k, atRow ps i = some k ∧ k < b := by
  rw [← h.s, ← expand_len] at hi
  refine ⟨_, by rw [atRow_eq, List.getElem?_eq_getElem hi], ?_⟩
  have := List.getElem_mem hi
  obtain ⟨p, hp, hk⟩ := List.mem_flatMap.mp (show (expand ps)[i] ∈ ps.flatMap _ from this)
  rw [List.eq_of_mem_replicate hk]
  exact h.v.below p hp
theorem getT_eq (H : Shape) (code : Nat) : getT H.tab code = worthT H.tb code := by
  unfold getT worthT
  simp only [atRow_eq, Nat.shiftRight_eq_div_pow, Nat.one_shiftLeft, Nat.and_two_pow_sub_one_eq_mod, Nat.pow_add]
  rfl
theorem pu_get {H : Shape} (ok : H.Ok) {code : Nat} (h : code < 1114112) : ∃ b, getT H.tab code = some b ∧ worthT H.tb code = some b := by
  rw [getT_eq]
  have p := H.pp ok
  have hS : 2 ^ H.lb * 2 ^ H.mb = 2 ^ (H.lb + H.mb) := (Nat.pow_add ..).symm
  have h0 : code / (2 ^ H.lb * 2 ^ H.mb) < H.size := by
    have b := H.bb ok
    rw [hS]
    unfold Shape.size
    rw [Nat.div_lt_iff_lt_mul (Nat.pow_pos (by decide))]
    have : 1114112 / 2 ^ (H.lb + H.mb) * 2 ^ (H.lb + H.mb) = 1114112 := by
      obtain ⟨e1, e2⟩ | ⟨e1, e2⟩ | ⟨e1, e2⟩ | ⟨e1, e2⟩ := bits_mem ok.bits <;> rw [e1, e2] <;> decide
    exact lin2 h (Nat.le_of_eq this.symm) (by wtm_at "a")
  obtain ⟨k1, e1, l1⟩ := (H.topOk ok).1.at h0
  have hm := List.getElem?_eq_getElem l1
  obtain ⟨k2, e2, l2⟩ := (H.midsOk ok _ (List.getElem_mem l1)).at (i := code / 2 ^ H.lb % 2 ^ H.mb) (Nat.mod_lt _ (by exact lin1 p.2.2.1 (by wtm_at "a")))
  have hl := List.getElem?_eq_getElem l2
  obtain ⟨k3, e3, l3⟩ := (H.lowsOk ok _ (List.getElem_mem l2)).at (i := code % 2 ^ H.lb) (Nat.mod_lt _ (by exact lin1 p.1 (by wtm_at "a")))
  have hw := List.getElem?_eq_getElem l3
  refine ⟨H.ws[k3], ?_⟩
  have : worthT H.tb code = some H.ws[k3] := by
    unfold worthT
    rw [show H.tb.top = H.top from rfl, show H.tb.bits.1 = H.lb from rfl, show H.tb.bits.2 = H.mb from rfl, e1]
    dsimp only
    rw [show H.tb.mids = H.mids from rfl, hm]
    dsimp only
    rw [e2]
    dsimp only
    rw [show H.tb.lows = H.lows from rfl, hl]
    dsimp only
    rw [e3]
    exact hw
  exact ⟨this, this⟩
section
variable {w : World} {c : Cx w} {L : Lc} {ob ob1 ob2 ob' : List Ob} {t t' t1 t2 t3 : Ty} {pos p' : Pos} {ns : List Str} {ts : List Ty} {rest : List Stmt}
theorem Ev.lowBits {e : PySem.Expr} {T : Tab} (he : eval (.Attribute e "low_bits" pos) c.env = (do let o ← eval e c.env; standAt pos.atName; let r ← holding [o] (getAttr o "low_bits" true); letTemporaryGo e o r; pure r)) (h : Ev c L ob e (tTrie T) ob1) : Ev c L ob (.Attribute e "low_bits" pos) (tN T.lb) ob1 := Ev.att he (trie_low_bits w) h Ins.inn .here Hd.n
theorem Ev.midBits {e : PySem.Expr} {T : Tab} (he : eval (.Attribute e "mid_bits" pos) c.env = (do let o ← eval e c.env; standAt pos.atName; let r ← holding [o] (getAttr o "mid_bits" true); letTemporaryGo e o r; pure r)) (h : Ev c L ob e (tTrie T) ob1) : Ev c L ob (.Attribute e "mid_bits" pos) (tN T.mb) ob1 := Ev.att he (trie_mid_bits w) h Ins.inn (.there rfl .here) Hd.n
theorem Ev.vals {e : PySem.Expr} {T : Tab} (he : eval (.Attribute e "values" pos) c.env = (do let o ← eval e c.env; standAt pos.atName; let r ← holding [o] (getAttr o "values" true); letTemporaryGo e o r; pure r)) (h : Ev c L ob e (tTrie T) ob1) : Ev c L ob (.Attribute e "values" pos) (tBs T.vals) ob1 := Ev.att he (trie_values w) h Ins.inn (.there rfl (.there rfl .here)) Hd.ls
theorem Ev.blocks {e : PySem.Expr} {T : Tab} {apos : Pos} {pl : Sem Bool} (he : eval (.Call (.Attribute e "blocks" apos) [] [] pos) c.env = (do let ov ← eval e c.env; standAt apos.atName; let (f, first) ← holding [ov] (getMethod ov "blocks" pl); callWith pos f first (backTo pos (starEach [] c.env)) (backToKw pos (keywordEach [] c.env))))
    (hr : Room c.A 1) (hT : T.Small) (h : Ev c L ob e (tTrie T) ob1) : Ev c L ob (.Call (.Attribute e "blocks" apos) [] [] pos) (tPair (T.mids.length, T.lows.length)) ob1 := Ev.meth0 he (trieM_blocks w) (by kernel_rfl) h Ins.inn rfl (Op.blocks hr hT)
theorem Ev.get {e ix : PySem.Expr} {T : Tab} {code : Nat} {b : List UInt8} {apos : Pos} {pl : Sem Bool} (he : eval (.Call (.Attribute e "get" apos) [ix] [] pos) c.env = (do let ov ← eval e c.env; standAt apos.atName; let (f, first) ← holding [ov] (getMethod ov "get" pl); callWith pos f first (backTo pos (starEach [ix] c.env)) (backToKw pos (keywordEach [] c.env))))
    (hx : starEach [ix] c.env = (false, eval ix c.env) :: starEach [] c.env) (hr : Room c.A 1) (hT : T.Small) (h : Ev c L ob e (tTrie T) ob1) (h2 : Ev c L ob1 ix (tN code) ob2) (hc : code < 2 ^ 60) (hb : getT T code = some b) : Ev c L ob (.Call (.Attribute e "get" apos) [ix] [] pos) (tB b) ob2 := Ev.meth he hx rfl (trieM_get w) (by kernel_rfl) h Ins.inn rfl (.cons hx h2 .nil) (Op.get hr hT hc hb)
theorem Op.heard {b : List UInt8} {T : Tab} (hr : Room c.A 10) (hz : b.length ≤ 16000000) (hN : rdTable b = .ok T) : Op c [tB b] (fun us => PySem.call (.ref 423) us) ob (tTrie T) ob := by
  rintro Z vs mt s us Q E S O (_ | ⟨⟨tk, rfl⟩, (_ | _)⟩) q
  refine fn_heard c.act S hr hz fun v Z' s' hV z S' => ?_
  rw [hN] at hV
  exact q v Z' mt s' z S' (O.up z) hV
theorem Op.heardE {b : List UInt8} {word : Str} (hr : Room c.A 10) (hz : b.length ≤ 16000000) (hN : rdTable b = .error word) : Op c [tB b] (fun us => PySem.call (.ref 423) us) ob (tS word) ob := by
  rintro Z vs mt s us Q E S O (_ | ⟨⟨tk, rfl⟩, (_ | _)⟩) q
  refine fn_heard c.act S hr hz fun v Z' s' hV z S' => ?_
  rw [hN] at hV
  exact q v Z' mt s' z S' (O.up z) hV
theorem Op.worth {T : Tb} {code : Nat} {b : List UInt8} (hr : Room c.A 2) (hbits : T.bits.1 + T.bits.2 ≤ 16) (ok : T.Ok) (hc : code < 2 ^ 60) (hb : worthT T code = some b) : Op c [tTb w T, tN code] (fun us => PySem.call (.ref 397) us) ob (tB b) ob := by
  rintro Z vs mt s us Q E S O (_ | ⟨⟨d, o, rfl, z, hd, h⟩, (_ | ⟨⟨tk, rfl⟩, (_ | _)⟩)⟩) q
  exact fn_worth T c.act S hr z h hbits ok hc hb fun tk s' S' => q.at S' O ⟨tk, rfl⟩
theorem trie_not (w : World) : kin_notT (KK w) 218 "str" = true ∧ plainGet (KK w) 218 "__class__" = true ∧ findIn (KK w) (.ref 218) "__class__" = some (some (.builtin "object.__class__")) ∧
    specialIn (KK w) (.builtin "object.__class__") "__get__" = some (some (.builtin "getset_descriptor.__get__")) ∧ takesIn (KK w) (.builtin "object.__class__") = some true ∧ mroIn (KK w) 218 (.type "object") = some true := ⟨by (have e : subIn (KK w) (.ref 218) (.type "str") = some false := by wtm_at "kis"); unfold kin_notT; rw [e]; rfl, by wtm_at "kis", by wtm_at "kis", by wtm_at "kis", by wtm_at "kis", by wtm_at "kis"⟩
theorem Op.isStr {T : Tab} : Op c [tTrie T, tVal (.type "str")] (fun us => PySem.call (.builtin "isinstance") us) ob (tBool false) ob := by
  rintro Z vs mt s us Q E S O (_ | ⟨hV, (_ | ⟨rfl, (_ | _)⟩)⟩) q
  obtain ⟨r, dr, od, kvs, rfl, hx, hd, hD, hF⟩ := hV
  obtain ⟨k1, k2, k3, k4, k5, k6⟩ := trie_not w
  have I : InstAt s.heap r (instObj 218 dr) 218 (some od) := ⟨S.z _ _ hx, rfl, rfl, S.z _ _ hd⟩
  exact kin_callT (c.act.kh S) I k1 (by kernel_rfl) k2 (trie_cls w).1 k3 k4 k5 k6 (q.at S.tok O rfl)
end
section
variable {w : World} {c : Cb w} {L L' L1 : Lc} {ob ob0 ob1 ob2 ob' : List Ob} {t t' t0 t1 t2 t3 : Ty} {pos p' apos xp : Pos} {ns nm gn : List Str} {ts us : List Ty} {e e2 : PySem.Expr} {body rest : List Stmt} {o : Out} {x : Str} {i : Nat}
theorem Bs.setC {ca : Addr} (hk : c.env.kindOf x = some .cell) (hc : c.env.cells.lookup x = some ca) (hb : ob1[i]? = some (oCell0 ca)) (hs : swapsWith e (some (.Name x xp)) pos.line c.env = pure false)
    (h1 : Ev c.g L ob e t1 ob1) (h2 : Bs c L (ob1.set i (oCell ca t1)) rest o) : Bs c L ob (.Assign [.Name x xp] e pos :: rest) o := by
  intro Z vs mt s K E p q
  refine X_assignC hs (h1 Z vs mt s _ _ p fun v Z1 mt1 s1 z1 S1 O1 r1 => ?_)
  obtain ⟨o, ho, hm, hg, hO⟩ := O1.pick hb
  exact S_cell c.act S1 hk hc hm ho hg fun o' s2 hd' S2 => h2 Z1 vs _ s2 K E ⟨S2, p.l.up z1, hO (oCell ca t1) o' rfl ⟨v, hd', r1⟩⟩ (q.up z1)
theorem Ev.compNone {scope : Scope} {cl : List (Str × Addr)} {iter elt test : PySem.Expr} {n : Nat} {uf : Nat → Ty} (hs : ∀ x, foldedSetIterable iter c.env x = pure x) (hclos : closureFor scope c.env = pure cl) (hkind : scope.kind = .function) (hnames : ∀ x ∈ scope.names, x.2 = .local → scope.names.lookup x.1 = some .local) (hcell : ∀ y ∈ scope.names, y.2 ≠ .cell) (hx : scope.names.lookup x = some .local)
    (h1 : Itr c L ob iter n uf ob') (hz : n ≤ 16000000)
    (turn : ∀ i C oC m it o2 acc o3, i < n → NsO m oC → Tq (c.cp scope cl C m) ⟨[x], [uf i]⟩ (oIs C oC :: oIs it o2 :: oIs acc o3 :: ob') test False (oIs C oC :: oIs it o2 :: oIs acc o3 :: ob')) :
    Ev c.g L ob (.ListComp elt [⟨.Name x xp, iter, [test], 0⟩] scope pos) (tLs []) ob' := by
  intro Z vs mt s Q E p q
  refine V_comp c.act hs hclos hkind hnames hcell (h1 Z vs mt s _ E p fun it o IA V Z1 mt1 s1 z1 st hI S1 O1 hV => ?_)
  refine CL.mk it o n IA V Z1 vs mt1 (fun i Z' vs' mt' ys => vs' = vs ∧ Obs Z' ob' mt' ∧ ys = []) rfl (by rw [sizeLine_eq]; exact lin1 hz (by wtm_at "a")) st hI S1 ⟨rfl, O1, rfl⟩ ?_ ?_
  · rintro C acc i v Z2 vs2 mt2 ys k m oC o2 s2 E2 hi hv hz2 ⟨rfl, O2, rfl⟩ hC S2
    refine wpAny_assign_Name (C_set S2 hC hkind hx fun m' oC' s3 hC' hm' _ S3 => ?_)
    refine wpAny_tests_one ?_
    refine turn i C oC' m' it o2 acc (Lo [] k) hi hC' Z2 _ _ s3 _ _ ⟨S3, .cons hm' ((uf i).m hz2 (hV i v hi hv)) .nil, .cons (b := oIs C oC') rfl (.cons (b := oIs it o2) rfl (.cons (b := oIs acc (Lo [] k)) rfl O2))⟩ fun Z4 mt4 s4 z4 S4 O4 => ?_
    rw [decide_eq_false id, if_neg Bool.false_ne_true]
    cases O4 with | cons h1 O4 => cases O4 with | cons h2 O4 => cases O4 with | cons h3 O4 =>
    cases h1; cases h2; cases h3
    exact CTurn.mk hC' S4 (fun _ _ q => z4 _ _ (hz2 _ _ q)) ⟨rfl, O4, rfl⟩
  · rintro acc Z2 vs2 mt2 ys k hz2 ⟨rfl, O2, rfl⟩ hacc s' S'
    exact q _ _ _ _ (fun _ _ h => .inl (hz2 _ _ (z1 _ _ h))) (S'.freeze hacc) (O2.up fun _ _ h => .inl h) ⟨acc, [], k, rfl, .inr ⟨rfl, rfl⟩, .nil⟩
theorem Ev.eqNil {c : Cx w} (hu : Room c.A 1) (hm : behindInMarks .Eq e2 = false) (h1 : Ev c L ob e (tLs []) ob1) (h2 : Ev c L ob1 e2 (tLs []) ob2) : Ev c L ob (.Compare e [.Eq] [e2] pos) (tBool true) ob2 := by
  intro Z vs mt s Q E p q
  refine V_cmp hm (h1 Z vs mt s _ _ p ?_)
  rintro v Z1 mt1 s1 z1 S1 O1 ⟨a, xs, n, rfl, za, T⟩
  cases T
  refine h2 Z1 vs mt1 s1 _ _ ⟨S1, p.l.up z1, O1⟩ ?_
  rintro v Z2 mt2 s2 z2 S2 O2 ⟨b, ys, n2, rfl, zb, T2⟩
  cases T2
  exact R_eq_nil (S2.isListZ (z2 _ _ za)) (S2.isListZ zb) hu.un (((q.up z1).up z2).at S2 O2 rfl)
end
section
variable {w : World} {A : Around} {env : Env} {G : Gh} {outer : List Env} {Z : Zt} {vs : List (Option Value)} {mt foot rest : List (Addr × Obj)} {s : Shared} {Q : Value → Shared → Prop}
variable {f : Addr} {obj : Obj} {fd : FuncData} {body : List Stmt} {binds : List (Str × Value)} {args : List Value} {nm gn : List Str} {ns : List Str} {ts : List Ty} {ob ob' : List Ob} {t : Ty} {n m : Nat}
theorem call_CG {csOf : Nat → List (Str × Addr)} {ocs : Nat → List Ob} (a : Act w A env G outer) (S : St G Z vs (foot ++ rest) s) (O : Obs Z ob foot) (hr : Room A n) (hm : m + 1 ≤ n)
    (ho : (KK w).lookup f = some obj) (hd : obj.data = .func fd) (hb : fd.body = .stmts body) (hcd : codeIn (KK w) fd.code fd.qualname = true)
    (hbind : bindArgs fd ⟨args, []⟩ = pure binds) (sc : scopeOkC fd binds nm gn = true) (hL : Lc.Ok ⟨ns, ts⟩ (look nm) Z (nm.map (fun x => (locsOf fd binds).reverse.lookup x)))
    (hcs : ∀ n, cellsFrom n fd.scope.names [] = csOf n) (hlk : ∀ n, ∀ p ∈ csOf n, (csOf n).lookup p.1 = some p.2)
    (hkind : ∀ x ∈ binds, fd.scope.names.lookup x.1 = some .local ∨ (fd.scope.names.lookup x.1 = some .cell ∧ ∀ n, ((csOf n).lookup x.1).isSome = true))
    (hoc : ∀ n (h : Heap), (∀ p ∈ csOf n, ((h.get? p.2).getD default).data = .cell (bindC (fun x => fd.scope.names.lookup x) binds (fun _ => none) p.1)) → Obs Z (ocs n) (cellMt h (csOf n)))
    (h : ∀ (c : Cb w) k, Room c.A m → c.G.nm = nm → c.G.gn = gn → c.env.cells = csOf k → c.env.kindOf = (fun x => fd.scope.names.lookup x) → Bw c ⟨ns, ts⟩ (ocs k ++ ob) body (.ret t ob'))
    (hQ : ∀ v Z' mt' s', (∀ a o, Z a o → Z' a o) → St G Z' vs (mt' ++ rest) s' → Obs Z' ob' mt' → t.r Z' v → Q v s') : WG (model P w) A (call (.ref f) args) Q s := by
  refine callG_cells a S hr.dep ho hd hb hcd hbind sc rfl hcs hlk hkind (fun A' env' G' s' cs dA uA hG hnm hgn a' hcl hcs' hki S' hdat => ?_)
  subst hcs'
  have OO : Obs Z (ocs (s.heap.objs.size + 1) ++ ob) (cellMt s'.heap (csOf (s.heap.objs.size + 1)) ++ foot) := by
    have h1 := hoc (s.heap.objs.size + 1) s'.heap hdat
    generalize ocs (s.heap.objs.size + 1) = bs at h1
    generalize cellMt s'.heap (csOf (s.heap.objs.size + 1)) = ms at h1
    clear hdat S'
    induction h1 with
    | nil => exact O
    | cons r _ ih => exact .cons r ih
  refine h ⟨A', env', G', _, a'⟩ (s.heap.objs.size + 1) (hr.sub dA uA hm) hnm hgn hcl hki Z _ _ s' _ ⟨S', (by show Lc.Ok _ (look G'.nm) _ _; exact hnm ▸ hL), OO⟩ fun v Z' vs' mt' s'' z S2 O2 r => Back.mk S2 fun S3 => hQ v Z' mt' s'' z S3 O2 r
end
theorem Bw.perm {w : World} {c : Cb w} {L : Lc} {ob ob1 : List Ob} {body : List Stmt} {o : Out} (h : ob.Perm ob1) (k : Bw c L ob1 body o) : Bw c L ob body o := fun Z vs mt s K p q => by
  obtain ⟨mt', pm, O⟩ := Obs.perm h p.o
  exact k Z vs mt' s K ⟨p.S.perm pm, p.l, O⟩ q
section
variable {w : World} {c : Cb w} {L : Lc} {ob ob1 ob2 ob' : List Ob} {pos p' : Pos}
theorem EvG.octets {e ix : PySem.Expr} {T : Tab} {apos : Pos} {pl : Sem Bool} (he : eval (.Call (.Attribute e "octets" apos) [ix] [] pos) c.env = (do let ov ← eval e c.env; standAt apos.atName; let (f, first) ← holding [ov] (getMethod ov "octets" pl); callWith pos f first (backTo pos (starEach [ix] c.env)) (backToKw pos (keywordEach [] c.env))))
    (hx : starEach [ix] c.env = (false, eval ix c.env) :: starEach [] c.env) (hr : Room c.A 4) (hT : T.Small) (h : Ev c.g L ob e (tTrie T) ob1) (h2 : Ev c.g L ob1 ix (tVal (.ref 416)) ob2) : EvG c L ob (.Call (.Attribute e "octets" apos) [ix] [] pos) (tB (sealB (encT T))) ob2 := by
  exact EvG.meth he hx rfl (trieM_octets w) (by kernel_rfl) h Ins.inn rfl (.cons hx h2 .nil) (OpG.mOctets hr hT)
noncomputable def tCode : Ty := ⟨fun _ v => ∃ n : Nat, n < 1114112 ∧ ∃ t, v = .int (n : Int) t, fun _ h => h⟩
end
section
variable {w : World} {A : Around} {env : Env} {G : Gh} {outer : List Env} {Z : Zt} {vs : List (Option Value)} {mt : List (Addr × Obj)} {s : Shared} {Q : Value → Shared → Prop}
set_option maxHeartbeats 2000000 in
theorem ty_isRead {d dw : Addr} {o ow : Obj} {W : Well} {n : Nat} {H : Shape} (a : Act w A env G outer) (S : St G Z vs ((d, o) :: mt) s) (hr : Room A 11) (hW : WellO w Z W o) (hk : W.Ok n) (hn : n ≤ 900) (ok : H.Ok)
    (hz : Z dw ow) (hs : (dw == sysModules) = false) (hT : TbO w Z H.tb ow)
    (hQ : ∀ v Z' mt' s', (∀ a o, Z a o → Z' a o) → St G Z' vs (mt' ++ mt) s' → Obs Z' [oWells w d (n + 10)] mt' → (tBool true).r Z' v → Q v s') : WG (model P w) A (call (.ref 428) [.ref d, .ref dw]) Q s := by
  refine' call_CG (f := 428) (foot := [(d, o)]) (rest := mt) (binds := [("well", .ref d), ("w", .ref dw)]) (nm := ["well", "octets", "size", "codes", "turn"]) (gn := ["_law_sealed", "_law_body", "_law_heard", "isinstance", "str", "list", "tuple", "len", "_law_same", "range", "_law_draw"])
    (ns := ["well"]) (ts := [tRef d]) (ob := [oWell w d W]) (ob' := [oWells w d (n + 10)]) (t := tBool true) (csOf := fun n => [("trie", n + 1), ("w", n)]) (ocs := fun n => [oCell0 (n + 1), oCell n (tTb w H.tb)]) (n := 11) (m := 10) a S ?O hr (by decide) ?ho ?k1 ?k2 ?k3 ?k4 ?k5 ?hL ?k7 ?k8 ?k9 ?hoc ?h hQ
  case O => exact .cons (b := oWell w d W) hW .nil
  case ho => (show List.lookup _ (Mine.hd.heap_1 _) = _; k_is)
  case k1 => exact rfl
  case k2 => exact rfl
  case k3 => kernel_rfl
  case k4 => kernel_rfl
  case k5 => kernel_rfl
  case hL => exact .cons (v := .ref d) (by kernel_rfl) rfl .nil
  case k7 => intro n; kernel_rfl
  case k8 => intro n p hp; rcases List.mem_cons.mp hp with rfl | hp; rfl; rw [List.mem_singleton] at hp; subst hp; rfl
  case k9 => intro x hx; rcases List.mem_cons.mp hx with rfl | hx; exact .inl (by kernel_rfl); rw [List.mem_singleton] at hx; subst hx; exact .inr ⟨by kernel_rfl, fun n => rfl⟩
  case hoc => exact fun n h hd => .cons (b := oCell0 (n + 1)) (hd ("trie", n + 1) (.head _)) (.cons (b := oCell n (tTb w H.tb)) ⟨_, hd ("w", n) (.tail _ (.head _)), dw, ow, rfl, hz, hs, hT⟩ .nil)
  case h =>
    intro c cw hr hnm hgn hcl hki
    have kw : c.env.kindOf "w" = some .cell := by rw [hki]; kernel_rfl
    have kt : c.env.kindOf "trie" = some .cell := by rw [hki]; kernel_rfl
    have lw : c.env.cells.lookup ("w" : Str) = some cw := by rw [hcl]; rfl
    have lt : c.env.cells.lookup ("trie" : Str) = some (cw + 1) := by rw [hcl]; rfl
    clear hcl hki hQ
    have tok := Shape.tbOk ok
    have blen := encBody_len tok
    have hble := bits_le ok.bits
    have hlb : H.lb ≤ 10 := hble.l10
    have hmb : H.mb ≤ 10 := hble.m10
    have hsm := pu_small ok
    have hll : H.tb.lows.length ≤ 1000 := tok.ln
    have hml : H.tb.mids.length ≤ 1000 := tok.mn
    have hwl : H.tb.ws.length ≤ 100 := tok.wn
    have hr1 : Room c.A 1 := hr.le (by decide)
    have eW : ∀ L pos b, Ev c.g L [b, oCell cw (tTb w H.tb), oWell w d W] (.Name "w" pos) (tTb w H.tb) [b, oCell cw (tTb w H.tb), oWell w d W] := fun L pos b => Ev.cell (i := 1) kw lw rfl rfl
    refine Bw.seq (Bs.set (t1 := tB (sealB (encBody H.tb))) hnm (by wtm_at "ix") (by wtm_at "d") rfl (Ev.sealed hgn (by wtm_at "d") hr1 rfl (Ev.body hgn (by wtm_at "d") (hr.le (by decide)) rfl (eW _ _ _) tok) (by exact lin1 blen (by wtm_at "a"))) Bs.nil) ?_
    refine Bw.seq (Bs.setC (t1 := tTrie H.tab) (i := 0) kt lt rfl rfl (Ev.cdef (f := 423) hgn (by wtm_at "d") (by wtm_at "kis") (by kernel_rfl) rfl rfl (.cons rfl (by wtm_at "lo") .nil) (Op.heard (T := H.tab) hr (by rw [sealB, List.length_append]; show (encBody H.tb).length + 4 ≤ _; exact lin1 blen (by wtm_at "a")) (pu_ok ok))) Bs.nil) ?_
    refine (show Bw c _ [oCell (cw + 1) (tTrie H.tab), oCell cw (tTb w H.tb), oWell w d W] _ _ from ?_)
    have eT : ∀ L pos ob, Ev c.g L (oCell (cw + 1) (tTrie H.tab) :: ob) (.Name "trie" pos) (tTrie H.tab) (oCell (cw + 1) (tTrie H.tab) :: ob) := fun L pos ob => Ev.cell (i := 0) kt lt rfl rfl
    have eW : ∀ L pos b ob, Ev c.g L (b :: oCell cw (tTb w H.tb) :: ob) (.Name "w" pos) (tTb w H.tb) (b :: oCell cw (tTb w H.tb) :: ob) := fun L pos b ob => Ev.cell (i := 1) kw lw rfl rfl
    refine Bw.seq (Bs.skip (Tq.or (b := true) (Tq.no (Tq.val rfl (Ev.cblt (id := "isinstance") hgn (by wtm_at "d") (by wtm_at "kis") (by boot_by_name) (by decide) rfl rfl (.cons rfl (eT _ _ _) (.cons rfl (Ev.blt hgn (by wtm_at "d") (by wtm_at "kis") (by boot_by_name) (by decide)) .nil)) (Op.isStr (T := H.tab)))) (by decide)) (Tq.or (b := true) (Tq.no (Tq.neP (a := (H.lb, H.mb)) (b := (H.lb, H.mb)) rfl hr1 (Ev.tup (.cons rfl (Ev.lowBits rfl (eT _ _ _)) (.cons rfl (Ev.midBits rfl (eT _ _ _)) .nil)) (nb rfl)) (Ev.tbBits (T := H.tb) (eW _ _ _ _))) (fun q => q rfl)) (Tq.or (b := true) (Tq.no (Tq.neBs (ps := H.ws) (qs := H.ws) rfl hr1 (Ev.ctype (T := "list") hgn (by wtm_at "d") (by wtm_at "kis") (by boot_by_name) (by decide) rfl rfl (.cons rfl (Ev.vals (T := H.tab) rfl (eT _ _ _)) .nil) (Op.list (by rw [List.length_map]; change H.ws.length ≤ 100 at hwl; show H.ws.length ≤ _; exact lin1 hwl (by wtm_at "a")))) (Ev.tbWs (T := H.tb) (eW _ _ _ _))) (fun q => q rfl)) Tq.or0))) Bs.nil) ?_
    refine Bw.skipG (TqG.or (b := true) (Tq.no (Tq.neP (a := (H.mids.length, H.lows.length)) (b := (H.mids.length, H.lows.length)) rfl hr1 (Ev.ctype (T := "tuple") hgn (by wtm_at "d") (by wtm_at "kis") (by boot_by_name) (by decide) rfl rfl (.cons rfl (Ev.blocks (T := H.tab) rfl hr1 hsm (eT _ _ _)) .nil) Op.tuple) (Ev.tup (.cons rfl ((Ev.len hgn (by wtm_at "d") rfl (Ev.tbMids (T := H.tb) (eW _ _ _ _)) (by rw [List.length_map]; exact lin1 hml (by wtm_at "a"))).cast (congrArg tN (List.length_map _))) (.cons rfl ((Ev.len hgn (by wtm_at "d") rfl (Ev.tbLows (T := H.tb) (eW _ _ _ _)) (by rw [List.length_map]; exact lin1 hll (by wtm_at "a"))).cast (congrArg tN (List.length_map _))) .nil)) (nb rfl))) (fun q => q rfl)) (TqG.last (TqG.neB (b := sealB (encBody H.tb)) rfl (pu_enc (H := H) ▸ EvG.octets (T := H.tab) rfl rfl (hr.le (by decide)) hsm (eT _ _ _) (Ev.glob hgn (by wtm_at "d") (by wtm_at "kis"))) (by wtm_at "lo")))) ?_
    have hP := fun (a b : Nat) (h : a ≤ b) => Nat.pow_le_pow_right (n := 2) (by decide) h
    have h6 := hP 6 H.lb hble.l6
    have h10 := hP H.lb 10 (by exact lin1 hlb (by wtm_at "a"))
    refine Bw.seq (Bs.set (t1 := tN (2 ^ H.lb)) hnm (by wtm_at "ix") (by wtm_at "d") rfl (Ev.pow Ev.nat (Ev.tupI (ts := [tN H.lb, tN H.mb]) (Ev.tbBits (T := H.tb) (eW _ _ _ _)) Ev.nat rfl (nb rfl) (fun _ _ _ => ⟨_, rfl⟩)) (by decide) (by exact lin1 hlb (by wtm_at "a"))) Bs.nil) ?_
    have hS : 2 ^ H.lb * 2 ^ H.mb = 2 ^ (H.lb + H.mb) := (Nat.pow_add ..).symm
    have hS1 := hP 12 (H.lb + H.mb) hble.s12
    have hS2 := hP (H.lb + H.mb) 16 hble.s16
    rw [← hS] at hS1 hS2
    refine Bw.fam (p := fun l => l ∉ c.G.ft) (Lg := fun l => ⟨["codes", "size", "octets", "well"], [tRef l, tN (2 ^ H.lb), tB (sealB (encBody H.tb)), tRef d]⟩) (obg := fun l => [oLs l ([0, 1114111, 2 ^ H.lb - 1, 2 ^ H.lb, 2 ^ H.lb * 2 ^ H.mb - 1, 2 ^ H.lb * 2 ^ H.mb].map tN), oCell (cw + 1) (tTrie H.tab), oCell cw (tTb w H.tb), oWell w d W]) (Bs.own hnm (by wtm_at "ix") (by wtm_at "d") rfl (.cons rfl Ev.nat (.cons rfl Ev.nat (.cons rfl (Ev.sub (by wtm_at "lo") Ev.nat (by exact lin1 h6 (by wtm_at "p"))) (.cons rfl (by wtm_at "lo") (.cons rfl (Ev.sub (Ev.mul (by wtm_at "lo") (Ev.pow Ev.nat (Ev.tupI (ts := [tN H.lb, tN H.mb]) (Ev.tbBits (T := H.tb) (eW _ _ _ _)) Ev.nat rfl (nb rfl) (fun _ _ _ => ⟨_, rfl⟩)) (by decide) (by exact lin1 hmb (by wtm_at "a"))) (by exact lin1 (b := 18446744073709551616) h10 (by wtm_at "p"))) Ev.nat (by exact lin1 hS1 (by wtm_at "p"))) (.cons rfl (Ev.mul (by wtm_at "lo") (Ev.pow Ev.nat (Ev.tupI (ts := [tN H.lb, tN H.mb]) (Ev.tbBits (T := H.tb) (eW _ _ _ _)) Ev.nat rfl (nb rfl) (fun _ _ _ => ⟨_, rfl⟩)) (by decide) (by exact lin1 hmb (by wtm_at "a"))) (by exact lin1 (b := 18446744073709551616) h10 (by wtm_at "p"))) .nil)))))) (nb rfl) fun l hl => Bs.fam (p := fun l => l ∉ c.G.ft) (Lg := fun l => ⟨["codes", "size", "octets", "well"], [tRef l, tN (2 ^ H.lb), tB (sealB (encBody H.tb)), tRef d]⟩) (obg := fun l => [oLs l ([0, 1114111, 2 ^ H.lb - 1, 2 ^ H.lb, 2 ^ H.lb * 2 ^ H.mb - 1, 2 ^ H.lb * 2 ^ H.mb].map tN), oCell (cw + 1) (tTrie H.tab), oCell cw (tTb w H.tb), oWell w d W]) l hl) fun l hl => ?_
    generalize hcs0 : [0, 1114111, 2 ^ H.lb - 1, 2 ^ H.lb, 2 ^ H.lb * 2 ^ H.mb - 1, 2 ^ H.lb * 2 ^ H.mb] = cs0
    have hb0 : ∀ n ∈ cs0, n < 1114112 := by
      intro n hn
      subst hcs0
      simp only [List.mem_cons, List.not_mem_nil, or_false] at hn
      have q1 := Nat.lt_of_le_of_lt h10 (show 2 ^ 10 < 1114112 by decide)
      have q2 := Nat.lt_of_le_of_lt hS2 (show 2 ^ 16 < 1114112 by decide)
      rcases hn with rfl | rfl | rfl | rfl | rfl | rfl
      · decide
      · decide
      · exact Nat.lt_of_le_of_lt (Nat.sub_le _ _) q1
      · exact q1
      · exact Nat.lt_of_le_of_lt (Nat.sub_le _ _) q2
      · exact q2
    have hn0 : cs0.length = 6 := by subst hcs0; rfl
    have hM : 0 < 5 * 2 ^ H.lb * 2 ^ H.mb ∧ 5 * 2 ^ H.lb * 2 ^ H.mb ≤ 1114112 := by rw [Nat.mul_assoc]; exact ⟨lin1 hS1 (by wtm_at "p"), lin5 hS2 hS2 hS2 hS2 hS2 (by wtm_at "p")⟩
    refine Bw.perm (ob1 := [oWell w d W, oLs l (cs0.map tN), oCell (cw + 1) (tTrie H.tab), oCell cw (tTb w H.tb)]) mv3.symm ?_
    have eW : ∀ L pos W cs ob, Ev c.g L (oWell w d W :: oLs l cs :: oCell (cw + 1) (tTrie H.tab) :: oCell cw (tTb w H.tb) :: ob) (.Name "w" pos) (tTb w H.tb) (oWell w d W :: oLs l cs :: oCell (cw + 1) (tTrie H.tab) :: oCell cw (tTb w H.tb) :: ob) := fun L pos W cs ob => Ev.cell (i := 3) kw lw rfl rfl
    refine Bw.fam (p := fun x : List Nat × Well => x.1.length = 6 + 10 ∧ (∀ n ∈ x.1, n < 1114112) ∧ x.2.Ok (n + 10)) (Lg := fun _ => ⟨["codes", "size", "octets", "well"], [tRef l, tN (2 ^ H.lb), tB (sealB (encBody H.tb)), tRef d]⟩) (obg := fun x => [oWell w d x.2, oLs l (x.1.map tN), oCell (cw + 1) (tTrie H.tab), oCell cw (tTb w H.tb)])
      (Bs.forL (I := fun i x => x.1.length = 6 + i ∧ (∀ n ∈ x.1, n < 1114112) ∧ x.2.Ok (n + i)) (obs := fun i x => [oWell w d x.2, oLs l (x.1.map tN), oCell (cw + 1) (tTrie H.tab), oCell cw (tTb w H.tb)]) (Lf := fun i => ⟨"turn" :: ["codes", "size", "octets", "well"], tN i :: [tRef l, tN (2 ^ H.lb), tB (sealB (encBody H.tb)), tRef d]⟩) (n := 10) (cs0, W) (by intro _; rfl)
        (Itr.range hgn (by wtm_at "d") rfl Ev.nat (by decide)) ⟨hn0, hb0, hk⟩ (fun i => Asn.name hnm (by wtm_at "ix") (by wtm_at "d")) (fun i x it ot hi hx => .inl ?_) fun x hx => Bs.fam (p := fun x : List Nat × Well => x.1.length = 6 + 10 ∧ (∀ n ∈ x.1, n < 1114112) ∧ x.2.Ok (n + 10)) (Lg := fun _ => ⟨["codes", "size", "octets", "well"], [tRef l, tN (2 ^ H.lb), tB (sealB (encBody H.tb)), tRef d]⟩) (obg := fun x => [oWell w d x.2, oLs l (x.1.map tN), oCell (cw + 1) (tTrie H.tab), oCell cw (tTb w H.tb)]) x hx) fun x hx => ?_
    · obtain ⟨cs, W2⟩ := x
      obtain ⟨hcl, hb, hk2⟩ := hx
      dsimp only at hcl hb hk2
      refine ⟨(cs ++ [if i < 3 then W2.draw 1114112 else W2.draw (5 * 2 ^ H.lb * 2 ^ H.mb)], W2.next), ⟨by rw [List.length_append, hcl]; rfl, fun q hq => ?_, hk2.next⟩, ?_⟩
      · rcases List.mem_append.mp hq with hq | hq
        · exact hb q hq
        · rw [List.mem_singleton] at hq
          subst hq
          split
          · exact Well.draw_lt _ (by decide)
          · exact Nat.lt_of_lt_of_le (Well.draw_lt _ hM.1) hM.2
      refine Bs.append (i := 1) (us := cs.map tN) (t := tN (if i < 3 then W2.draw 1114112 else W2.draw (5 * 2 ^ H.lb * 2 ^ H.mb))) rfl rfl rfl (by wtm_at "lo") rfl (Ev.ite (Tq.ltN rfl (by wtm_at "lo") Ev.nat) (fun hp => (Ev.draw hgn (by wtm_at "d") hr1 rfl rfl (by wtm_at "lo") Ev.nat hk2 (by exact lin2 hn hp (by wtm_at "a")) (by decide)).cast (by rw [if_pos hp]))
        (fun hp => (Ev.draw hgn (by wtm_at "d") hr1 rfl rfl (by wtm_at "lo") (Ev.mul (Ev.mul Ev.nat (by wtm_at "lo") (by decide)) (Ev.pow Ev.nat (Ev.tupI (ts := [tN H.lb, tN H.mb]) (Ev.tbBits (T := H.tb) (eW _ _ _ _ _)) Ev.nat rfl (nb rfl) (fun _ _ _ => ⟨_, rfl⟩)) (by decide) (by exact lin1 hmb (by wtm_at "a"))) (by exact lin5 (b := 18446744073709551616) h10 h10 h10 h10 h10 (by wtm_at "p"))) hk2 (by exact lin2 hn hi (by wtm_at "a")) hM.1).cast (by rw [if_neg hp]))) rfl (by rw [List.length_map]; exact lin2 hi (Nat.le_of_eq hcl) (by wtm_at "a")) ?_
      rw [show cs.map tN ++ [tN (if i < 3 then W2.draw 1114112 else W2.draw (5 * 2 ^ H.lb * 2 ^ H.mb))] = (cs ++ [if i < 3 then W2.draw 1114112 else W2.draw (5 * 2 ^ H.lb * 2 ^ H.mb)]).map tN by rw [List.map_append]; rfl]
      exact Bs.drop 1
    obtain ⟨cs, W2⟩ := x
    obtain ⟨hcl, hb, hk2⟩ := hx
    dsimp only at hcl hb hk2
    have hbits : H.tb.bits.1 + H.tb.bits.2 ≤ 16 := by show H.lb + H.mb ≤ 16; exact hble.s16
    obtain ⟨fc, fc1, fc2⟩ : ∃ fc : Str → Addr, fc "trie" = cw + 1 ∧ fc "w" = cw := ⟨fun x => (c.env.cells.lookup x).getD 0, (by show (c.env.cells.lookup ("trie" : Str)).getD 0 = _; rw [lt]; rfl), (by show (c.env.cells.lookup ("w" : Str)).getD 0 = _; rw [lw]; rfl)⟩
    refine Bw.perm (ob1 := [oLs l (cs.map tN), oWell w d W2, oCell (cw + 1) (tTrie H.tab), oCell cw (tTb w H.tb)]) (List.Perm.swap ..) (Bw.any (Bs.frz hl (i := 0) .here (by wtm_at "d") rfl (Bs.ret (Ev.weak (Ev.eqNil hr1 rfl (Ev.compNone (cl := [("w", fc "w"), ("trie", fc "trie")]) (by intro _; rfl) (closureFor_eq fc ?_) rfl (by wtm_at "d") (by decide) (by kernel_rfl) (Itr.list (f := tN) (xs := cs) (by wtm_at "lo")) (by exact lin1 (Nat.le_of_eq hcl) (by wtm_at "a")) fun i C oC m it o2 acc o3 hi hC => ?_) (Ev.list .nil (nb rfl))) (.well hk2 (.drop (.drop .nil)))))))
    · intro x hx hf
      simp only [List.mem_cons, List.not_mem_nil, or_false] at hx
      rcases hx with rfl | rfl | rfl | rfl | rfl
      · cases hf
      · cases hf
      · cases hf
      · show _ = some (fc "trie"); rw [fc1]; exact lt
      · show _ = some (fc "w"); rw [fc2]; exact lw
    · obtain ⟨cd, hcd⟩ : ∃ cd, cs[i]? = some cd := ⟨_, List.getElem?_eq_getElem (by exact lin1 hi (by wtm_at "a"))⟩
      have hcl' := hb cd (List.mem_of_getElem? hcd)
      obtain ⟨b, hg1, hg2⟩ := pu_get ok hcl'
      rw [hcd]
      exact Tq.no (Tq.neB rfl (Ev.get (T := H.tab) (code := cd) (b := b) rfl rfl hr1 hsm (Ev.free (i := 4) rfl (by kernel_rfl) kt (by rw [← fc1]; rfl) rfl rfl) (Ev.cloc hC rfl (by kernel_rfl) rfl 0 .here rfl) (by exact lin1 (b := 1152921504606846976) hcl' (by wtm_at "a")) hg1) (Ev.cdefC (f := 397) rfl rfl rfl (by wtm_at "kis") (by kernel_rfl) rfl rfl (.cons rfl (Ev.free (i := 5) rfl (by kernel_rfl) kw (by rw [← fc2]; rfl) rfl rfl) (.cons rfl (Ev.cloc hC rfl (by kernel_rfl) rfl 0 .here rfl) .nil)) (Op.worth (hr.le (by decide)) hbits tok (by exact lin1 (b := 1152921504606846976) hcl' (by wtm_at "a")) hg2))) (fun q => q rfl)
end
namespace Bt
theorem no_bytes : typeLookup (.type "tuple") "__bytes__" = pure none := by rw [typeLookup_type, builtinLookup_eq_fast]; kernel_rfl
theorem no_idx : typeLookup (.type "tuple") "__index__" = pure none := by rw [typeLookup_type, builtinLookup_eq_fast]; kernel_rfl
theorem no_buffer : typeLookup (.type "tuple") "__buffer__" = pure none := by rw [typeLookup_type, builtinLookup_eq_fast]; kernel_rfl
theorem split_len : splitId "tuple.__len__" = some ("tuple", "__len__") := by decide +kernel
theorem sub_self : isSubtype (.type "tuple") (.type "tuple") = pure true := by rw [isSubtype_type]; kernel_rfl
end Bt
section
variable {w : World} {A : Around} {env : Env} {G : Gh} {outer : List Env} {Z : Zt} {vs : List (Option Value)} {mt : List (Addr × Obj)} {s : Shared} {E : Value → Shared → Prop}
noncomputable abbrev Ga (ns : List Int) : Obj := { cls := .type "bytearray", data := .bytearray (byteArr ns) }
theorem bt_turns {R : Result → Shared → Prop} {l it S : Addr} {xs : List Value} {ns : List Int} {c : Nat} (hh : A.handled = none) (hl : Z l (To xs c)) (hi : IntsAre xs ns) (hb : ∀ n ∈ ns, 0 ≤ n ∧ n < 256) (hz : ns.length ≤ sizeLine) (hf : it ∉ G.ft)
    (hR : ∀ t s', St G Z vs ((S, Ga ns) :: mt) s' → R (.ok (.ret (.bytes (byteArr ns) t))) s') :
    ∀ (k : Nat) (o : Obj) (s : Shared), k ≤ ns.length → o.cls = .type "tuple_iterator" → o.data = .fields #[.ref l, .int ((ns.length - k : Nat) : Int) 0] → St G Z vs ((it, o) :: (S, Ga (ns.take (ns.length - k))) :: mt) s →
      codeAny (model P w) A (.builtin "bytes.__new__.loop" ⟨[.type "bytes", .ref it, .ref S], []⟩) R s := by
  have hlen := hi.length
  intro k
  induction k with
  | zero =>
    intro o s hk hc hd S0
    rw [Nat.sub_zero, List.take_length] at S0
    refine codeAny_builtin F.bm_entry_loop ?_
    rw [Around.under_plainId F.bm_plain_loop _]
    refine wpAny_bind (next_tuple_end hh ⟨o, S0.has .here, hc, hd⟩ ⟨_, S0.z _ _ hl, rfl, c, rfl⟩ (by simp [hlen]) fun h' hx => ?_)
    have S1 := S0.drop (tk := s.toks) hx hf
    refine wpAny_bind ?_
    unfold Builtin.Bytes.payload Builtin.Bytes.payload?
    refine wpAny_bind (wpAny_bind (wpAny_load (S1.has .here) (wpAny_pure (wpAny_pure ?_))))
    refine wpAny_bind (wpAny_mkBytes ?_ (by rw [byteArr_size]; exact hz))
    show wpAny _ _ (if (Value.type "bytes" == Value.type "bytes") = true then _ else _) _ _ _
    refine bm_if_true (by decide) ?_
    first
      | exact wpAny_pure (hR _ _ S1.tok)
      | exact wpAny_bind (wpAny_pure (wpAny_pure (hR _ _ S1.tok)))
  | succ k ih =>
    intro o s hk hc hd S0
    have hlt : ns.length - (k + 1) < ns.length := by exact lin1 (Nat.le_of_eq (Nat.sub_add_cancel (show k + 1 ≤ ns.length from lin1 hk (by wtm_at "a")))) (by wtm_at "a")
    have e1 : ns.length - k = ns.length - (k + 1) + 1 := by exact Nat.le_antisymm (lin2 (Nat.le_of_eq (Nat.sub_add_cancel (show k ≤ ns.length from lin1 hk (by wtm_at "a")))) (Nat.le_of_eq (Nat.sub_add_cancel (show k + 1 ≤ ns.length from lin1 hk (by wtm_at "a"))).symm) (by wtm_at "a")) (lin2 (Nat.le_of_eq (Nat.sub_add_cancel (show k + 1 ≤ ns.length from lin1 hk (by wtm_at "a")))) (Nat.le_of_eq (Nat.sub_add_cancel (show k ≤ ns.length from lin1 hk (by wtm_at "a"))).symm) (by wtm_at "a"))
    generalize ns.length - (k + 1) = i at hlt e1 hd S0
    obtain ⟨x, hx⟩ : ∃ x, xs[i]? = some x := ⟨xs[i]'(by exact lin2 (Nat.le_of_eq hlen.symm) hlt (by wtm_at "a")), List.getElem?_eq_getElem (by exact lin2 (Nat.le_of_eq hlen.symm) hlt (by wtm_at "a"))⟩
    obtain ⟨n, t, rfl, hn⟩ := IntsAre.at hi i x hx
    obtain ⟨h0, h1⟩ := hb n (List.mem_of_getElem? hn)
    refine codeAny_builtin F.bm_entry_loop ?_
    rw [Around.under_plainId F.bm_plain_loop _]
    refine wpAny_bind (next_tuple_item (x := .int n t) ⟨o, S0.has .here, hc, hd⟩ ⟨_, S0.z _ _ hl, rfl, c, rfl⟩ (by simpa using hx) fun h' ⟨o', ho', hc', hd'⟩ hs => ?_)
    have S1 := S0.chg (tk := s.toks) .here hs ho'
    refine wpAny_bind (wpAny_holding (wpAny_of_eq (rfl : asIndex (.int n t) = pure n) ?_))
    refine wpAny_bind (wpAny_letGo ?_)
    refine bm_if_false (by simp only [Bool.or_eq_false_iff, decide_eq_false_iff_not]; exact ⟨Int.not_lt.mpr (linI1 h0 (by wtm_at "a")), Int.not_le.mpr (linI1 h1 (by wtm_at "a"))⟩) ?_
    refine wpAny_bind ?_
    show wpAny _ _ (updateBytearray S (·.push n.toNat.toUInt8)) _ _ _
    unfold updateBytearray
    refine wpAny_bind (wpAny_load (S1.has (.there .here)) ?_)
    show wpAny _ _ (update S (Obj.mapBytearray (·.push n.toNat.toUInt8)) >>= fun _ => lookBehind S) _ _ _
    refine wpAny_bind (wpAny_update (S1.has (.there .here)) ?_)
    have g2 : (h'.update S (Obj.mapBytearray (·.push n.toNat.toUInt8))).get? S = some (Ga (ns.take (i + 1))) := by
      unfold Ga
      rw [byteArr_take hn]
      exact Heap.get?_update_self (Obj.mapBytearray (·.push n.toNat.toUInt8)) (S1.has (.there .here)) rfl
    have S2 := S1.chg (tk := s.toks) (.there .here) (Heap.SameBut.update ..) g2
    refine wpAny_lookBehind g2 ?_ (wpAny_pure ⟨plainId_quiet F.bm_plain_loop _, ih o' _ (by exact lin1 hk (by wtm_at "a")) hc' (by rw [e1]; exact hd') (by rw [e1]; exact S2)⟩)
    show (if (byteArr (ns.take (i + 1))).size > sizeLine then some "bytearray:memory" else none) = none
    rw [if_neg]
    rw [byteArr_size, List.length_take]
    exact Nat.not_lt.mpr (lin2 hz (show min (i + 1) ns.length ≤ ns.length from Nat.min_le_right _ _) (by wtm_at "a"))
theorem bt_new {A' : Around} {l : Addr} {xs : List Value} {ns : List Int} {c : Nat} {Q : Value → Shared → Prop} (hh : A'.handled = none) (a : Act w A env G outer) (S : St G Z vs mt s) (hl : Z l (To xs c)) (hi : IntsAre xs ns) (hb : ∀ n ∈ ns, 0 ≤ n ∧ n < 256) (hz : ns.length ≤ sizeLine)
    (h : ∀ t s', St G Z vs mt s' → Q (.bytes (byteArr ns) t) s') : codeAny (model P w) A' (.call (.builtin "bytes.__new__") ⟨[.type "bytes", .ref l], []⟩) (wants (fun obj s₁ => s₁.TypeIs obj "bytes" ∧ Q obj s₁) E) s := by
  refine codeAny_of_tree ?_
  show wpAny _ A'.in1 (do checkBuiltinCall "bytes.__new__" ⟨[.type "bytes", .ref l], []⟩; again (.builtin "bytes.__new__" ⟨[.type "bytes", .ref l], []⟩)) _ _ s
  refine wpAny_bind (wpAny_of_eq (F.bm_newCall _) (wpAny_pure ⟨plainId_quiet F.bm_plain _, codeAny_builtin F.bm_entry ?_⟩))
  rw [Around.under_plainId F.bm_plain _]
  have T0 : s.TypeIs (.ref l) "tuple" := ⟨_, S.z _ _ hl, rfl⟩
  unfold Builtin.«bytes.__new__»
  refine wpAny_bind (wpAny_of_eq (a := true) rfl (bm_if_false rfl ?_))
  refine wpAny_bind (wpAny_of_eq F.bm_sub (bm_if_false rfl ?_))
  refine wpAny_bind (wpAny_of_eq (F.bm_bind _) ?_)
  refine wpAny_bind (wpAny_of_eq (a := ()) rfl ?_)
  refine wpAny_bind (wpAny_of_eq (a := ()) rfl (bm_if_false rfl ?_))
  refine wpAny_bind (wpAny_specialOf T0 Bt.no_bytes (wpAny_bind (wpAny_bind ?_)))
  show wpAny _ _ (load l >>= _) _ _ _
  refine wpAny_bind (wpAny_load (S.z _ _ hl) (wpAny_pure (wpAny_pure (bm_if_false rfl ?_))))
  refine wpAny_bind (wpAny_specialOf T0 Bt.no_idx (bm_if_true rfl ?_))
  first
    | show wpAny _ _ (Builtin.Bytes.buffer? "bytes.__new__" (.ref l) true >>= _) _ _ _
    | (refine wpAny_bind ?_; show wpAny _ _ (Builtin.Bytes.buffer? "bytes.__new__" (.ref l) true >>= _) _ _ _)
  refine wpAny_bind ?_
  unfold Builtin.Bytes.buffer?
  refine wpAny_bind (wpAny_specialOf T0 Bt.no_buffer (wpAny_bind (wpAny_specialOf T0 Bt.no_buffer (wpAny_pure ?_))))
  have S1 := S.push a { cls := .type "tuple_iterator", data := .fields #[.ref l, .int 0 0] } rfl s.toks
  refine wpAny_bind (wpAny_tryCatch (PySem.wpAny_pyIter_tuple ⟨_, S.z _ _ hl, rfl, c, rfl⟩ (wpAny_bind (wpAny_holding ?_))))
  have T1 : ({ s with heap := s.heap.push { cls := .type "tuple_iterator", data := .fields #[.ref l, .int 0 0] } } : Shared).TypeIs (.ref l) "tuple" := ⟨_, S1.z _ _ hl, rfl⟩
  unfold Builtin.Bytes.lengthHint
  refine wpAny_bind (wpAny_specialOf T1 PyProof.Rows.slot_tuple_len.lookup ?_)
  dsimp only
  rw [Bt.split_len]
  dsimp only
  refine wpAny_bind (wpAny_isInstance T1 Bt.sub_self (bm_if_false rfl (bm_if_true (by wtm_at "d") (wpAny_pure (wpAny_bind ?_)))))
  unfold Builtin.Bytes.newBytearray
  refine wpAny_newObj_type ?_ (Nat.zero_le _)
  have S2 := S1.push a (Ga []) rfl s.toks
  have S3 := S2.perm (List.Perm.swap ..)
  have main := bt_turns (w := w) (R := wants (fun obj s₁ => s₁.TypeIs obj "bytes" ∧ Q obj s₁) E) (A := A') hh hl hi hb hz (a.fresh S no_size).2 (fun t s' S' => ⟨PySem.W.typeIs_bytes _ _ _, h t s' (S'.sub (List.sublist_cons_self _ _))⟩) ns.length { cls := .type "tuple_iterator", data := .fields #[.ref l, .int 0 0] } _ (Nat.le_refl _) rfl (by rw [Nat.sub_self]; rfl) (by rw [Nat.sub_self]; exact S3)
  first
    | exact wpAny_pure ⟨plainId_quiet F.bm_plain_loop _, main⟩
    | exact wpAny_pure (wpAny_pure ⟨plainId_quiet F.bm_plain_loop _, main⟩)
theorem R_bytesT {l : Addr} {xs : List Value} {ns : List Int} {c : Nat} {Q : Value → Shared → Prop} (a : Act w A env G outer) (S : St G Z vs mt s) (hl : Z l (To xs c)) (hi : IntsAre xs ns) (hb : ∀ n ∈ ns, 0 ≤ n ∧ n < 256) (hz : ns.length ≤ sizeLine)
    (h : ∀ t s', St G Z vs mt s' → Q (.bytes (byteArr ns) t) s') : wpAny (model P w) A (call (.type "bytes") [.ref l]) Q E s := by
  refine callType_codes F.bm_called (F.bm_typeCall _) F.entry_object_init (bt_new a.hnd a S hl hi hb hz h) fun obj s₁ h₁ => ?_
  exact ⟨h₁.1, F.args_object_init_2 obj _, object_init_meets F.bm_called.init.lookup F.bm_called.made (by decide) (P) w A.in1 _ s₁ ⟨h₁.1, rfl, h₁.2⟩⟩
end
noncomputable def tFault : Ty := ⟨fun Z v => ∃ b word, rdTable b = .error word ∧ b.length ≤ 16000000 ∧ (tTup [tB b, tS word]).r Z v, fun k ⟨b, x, h, h', r⟩ => ⟨b, x, h, h', Ty.m _ k r⟩⟩
section
variable {w : World} {c : Cx w} {L : Lc} {ob ob1 ob2 ob' : List Ob} {t t' t1 t2 t3 : Ty} {pos p' : Pos} {rest : List Stmt}
theorem Ev.fault {e : PySem.Expr} {b : List UInt8} {word : Str} {d : Addr} {W : Well} {n : Nat} (h : Ev c L ob e (tTup [tB b, tS word]) [oWell w d W]) (hk : W.Ok n) (law : rdTable b = .error word) (hz : b.length ≤ 16000000) : Ev c L ob e tFault [oWells w d n] := by
  intro Z vs mt s Q E p q
  refine h Z vs mt s Q E p fun v Z' mt' s' z S O r => q v Z' mt' s' z S ?_ ⟨b, word, law, hz, r⟩
  cases O with | cons hW O => cases O with | nil => exact .cons (b := oWells w d n) ⟨W, hk, hW⟩ .nil
theorem Op.bytesT {ns : List Nat} (hb : ∀ n ∈ ns, n < 256) (hz : ns.length ≤ 16000000) : Op c [tTup (ns.map tN)] (fun us => PySem.call (.type "bytes") us) ob (tB (ns.map Nat.toUInt8)) ob := by
  rintro Z vs mt s us Q E S O (_ | ⟨⟨d, xs, n, rfl, z, T⟩, (_ | _)⟩) q
  refine R_bytesT c.act S z (ints_of T) (fun n hn => ?_) (by rw [sizeLine_eq, List.length_map]; exact lin1 hz (by wtm_at "a")) fun tk s' S' => ?_
  · obtain ⟨m, hm, rfl⟩ := List.mem_map.mp hn
    have := hb m hm; omega
  · rw [byteArr_nat hb]; exact q.at S' O ⟨tk, rfl⟩
theorem Ev.bytesT {c : Cb w} {e : PySem.Expr} {xp : Pos} {gn : List Str} {ns : List Nat} (hgn : c.G.gn = gn) (hc : gn.contains "bytes" = true) (he : starEach [e] c.env = (false, eval e c.env) :: starEach [] c.env) (h : Ev c.g L ob e (tTup (ns.map tN)) ob1) (hb : ∀ n ∈ ns, n < 256) (hz : ns.length ≤ 16000000) :
    Ev c.g L ob (.Call (.Name "bytes" xp) [e] [] pos) (tB (ns.map Nat.toUInt8)) ob1 := Ev.ctype (T := "bytes") hgn hc (by wtm_at "kis") (by boot_by_name) (by decide) he rfl (.cons he h .nil) (Op.bytesT hb hz)
theorem Ev.sum {c : Cb w} {e : PySem.Expr} {xp : Pos} {gn : List Str} {ns : List Nat} (hgn : c.G.gn = gn) (hc : gn.contains "sum" = true) (he : starEach [e] c.env = (false, eval e c.env) :: starEach [] c.env) (h : Ev c.g L ob e (tLs (ns.map tN)) ob1) :
    Ev c.g L ob (.Call (.Name "sum" xp) [e] [] pos) (tN ns.sum) ob1 := Ev.cblt (id := "sum") hgn hc (by wtm_at "kis") (by boot_by_name) (by decide) he rfl (.cons he h .nil) Op.sum
theorem Ev.ite1 {test a b : PySem.Expr} {p : Prop} [Decidable p] (hp : p) (h1 : Tq c L ob test p ob1) (h2 : Ev c L ob1 a t ob') : Ev c L ob (.IfExp test a b pos) t ob' := Ev.ite h1 (fun _ => h2) fun n => absurd hp n
theorem Ev.ite0 {test a b : PySem.Expr} {p : Prop} [Decidable p] (hp : ¬ p) (h1 : Tq c L ob test p ob1) (h2 : Ev c L ob1 b t ob') : Ev c L ob (.IfExp test a b pos) t ob' := Ev.ite h1 (fun n => absurd n hp) fun _ => h2
theorem sealB_len (b : List UInt8) : (sealB b).length = b.length + 4 := by unfold sealB; rw [List.length_append]; rfl
theorem sealed_len {T : Tb} (ok : T.Ok) : (sealB (encBody T)).length ≤ 16000000 := by rw [sealB_len]; have := encBody_len ok; exact lin1 this (by wtm_at "a")
end
section
variable {w : World} {A : Around} {env : Env} {G : Gh} {outer : List Env} {Z : Zt} {vs : List (Option Value)} {mt : List (Addr × Obj)} {s : Shared} {E Q : Value → Shared → Prop}
set_option maxHeartbeats 2000000 in
theorem fn_faulty {d dw : Addr} {o ow : Obj} {W : Well} {n way : Nat} {tw : Tok} {H : Shape} (a : Act w A env G outer) (S : St G Z vs ((d, o) :: mt) s) (hr : Room A 7) (hW : WellO w Z W o) (hk : W.Ok n) (hn : n ≤ 900) (ok : H.Ok)
    (hz : Z dw ow) (hs : (dw == sysModules) = false) (hT : TbO w Z H.tb ow) (hw : way < 18)
    (h : ∀ v Z' o' W' s', (∀ a o, Z a o → Z' a o) → tFault.r Z' v → WellO w Z' W' o' → W'.Ok (n + 5) → St G Z' vs ((d, o') :: mt) s' → Q v s') : wpAny (model P w) A (call (.ref 409) [.ref d, .ref dw, .int (way : Int) tw]) Q E s := by
  refine' call_T (f := 409) (foot := [(d, o)]) (rest := mt) (binds := [("well", .ref d), ("w", .ref dw), ("way", .int (way : Int) tw)]) (nm := ["well", "w", "way", "size", "body", "bits", "whole", "pick", "at", "head", "many", "word"])
    (gn := ["_law_body", "bytes", "_law_sealed", "_law_draw", "len", "_law_with", "_law_number", "_law_values", "sum"]) (ns := ["well", "w", "way"]) (ts := [tRef d, tTb w H.tb, tN way]) (ob := [oWell w d W]) (ob' := [oWells w d (n + 5)]) (t := tFault) (n := 7) (m := 6) a S ?O hr (by decide) ?ho ?k1 ?k2 ?k3 ?k4 ?k5 ?hL ?h ?hQ
  case O => exact .cons (b := oWell w d W) hW .nil
  case ho => (show List.lookup _ (Mine.hd.heap_1 _) = _; k_is)
  case k1 => exact rfl
  case k2 => exact rfl
  case k3 => kernel_rfl
  case k4 => kernel_rfl
  case k5 => kernel_rfl
  case hL => exact .cons (v := .ref d) (by kernel_rfl) rfl (.cons (v := .ref dw) (by kernel_rfl) ⟨dw, ow, rfl, hz, hs, hT⟩ (.cons (v := .int (way : Int) tw) (by kernel_rfl) ⟨tw, rfl⟩ .nil))
  case hQ =>
    intro v Z' mt' s' z S' O r
    cases O with | cons hb hO => cases hO with | nil =>
    obtain ⟨W', hk', hW'⟩ := hb
    exact h v Z' _ W' s' z r hW' hk' S'
  case h =>
    intro c hr hnm hgn
    have hr1 : Room c.A 1 := hr.le (by decide)
    have hr4 : Room c.A 4 := hr.le (by decide)
    have hr5 : Room c.A 5 := hr.le (by decide)
    have tok := Shape.tbOk ok
    have blen := encBody_len tok
    have blen20 := pu_len (H := H)
    have slen := sealB_len (encBody H.tb)
    have hble := bits_le ok.bits
    have hlb : H.lb ≤ 10 := hble.l10
    have hmb : H.mb ≤ 10 := hble.m10
    refine Bd.sw3 (t1 := tN (2 ^ H.lb)) (t2 := tB (encBody H.tb)) (t3 := tB ([H.lb, H.mb].map Nat.toUInt8)) hnm (by wtm_at "ix") (by wtm_at "ix") (by wtm_at "ix") (by wtm_at "d") (by wtm_at "d") (by wtm_at "d") rfl (sw_three c.act (c.act.kloc _ (by rw [hnm]; decide)) (c.act.kloc _ (by rw [hnm]; decide)) (c.act.kloc _ (by rw [hnm]; decide)) rfl rfl (by wtm_at "d") rfl rfl rfl)
      (Ev.tup (.cons rfl (Ev.pow Ev.nat (Ev.tupI (ts := [tN H.lb, tN H.mb]) (Ev.tbBits (T := H.tb) (Ev.loc _ (by wtm_at "ix") rfl)) Ev.nat rfl (nb rfl) (fun _ _ _ => ⟨_, rfl⟩)) (by decide) (by exact lin1 hlb (by wtm_at "a")))
        (.cons rfl (Ev.body hgn (by wtm_at "d") hr4 rfl (Ev.loc _ (by wtm_at "ix") rfl) tok) (.cons rfl (Ev.bytesT (ns := [H.lb, H.mb]) hgn (by wtm_at "d") rfl (Ev.tbBits (T := H.tb) (Ev.loc _ (by wtm_at "ix") rfl)) (by simp; omega) (nb rfl)) .nil))) (nb rfl)) ?_
    refine Bd.sw2 (t1 := tB (sealB (encBody H.tb))) (t2 := tN (W.draw 3)) hnm (by wtm_at "ix") (by wtm_at "ix") (by wtm_at "d") (by wtm_at "d") rfl (sw_two c.act (c.act.kloc _ (by rw [hnm]; decide)) (c.act.kloc _ (by rw [hnm]; decide)) rfl (by wtm_at "d") rfl rfl rfl)
      (Ev.tup (.cons rfl (Ev.sealed hgn (by wtm_at "d") hr1 rfl (by wtm_at "lo") (by exact lin1 blen (by wtm_at "a"))) (.cons rfl (Ev.draw hgn (by wtm_at "d") hr1 rfl rfl (by wtm_at "lo") Ev.nat hk (by exact lin1 hn (by wtm_at "a")) (by decide)) .nil)) (nb rfl)) ?_
    have hp : W.draw 3 < 3 := Well.draw_lt _ (by decide)
    have hk1 := hk.next
    generalize W.draw 3 = pick at hp
    generalize W.next = W1 at hk1
    refine Bd.ifr (Tq.ltN rfl (by wtm_at "lo") Ev.nat) (fun h2 => ?_) (fun h2 => ?_)
    · by_cases h0 : way = 0
      · exact Bd.ret (Ev.fault (Ev.tup (.cons rfl (Ev.ite1 h0 (Tq.eqN rfl (by wtm_at "lo") Ev.nat) (Ev.bupto (by wtm_at "lo") (Ev.draw hgn (by wtm_at "d") hr1 rfl rfl (by wtm_at "lo") Ev.nat hk1 (by exact lin1 hn (by wtm_at "a")) (by decide)) (Nat.le_trans (Nat.le_of_lt (Well.draw_lt _ (by decide))) (by decide)) (by exact lin2 blen (Nat.le_of_eq slen) (by wtm_at "a")))) (.cons rfl Ev.str .nil)) (nb rfl)) (hk1.next.mono (by wtm_at "a")) (pu0 (Well.draw_lt _ (by decide))) (by rw [List.length_take]; exact lin3 blen (Nat.le_of_eq slen) (show min (W1.draw 8) (sealB (encBody H.tb)).length ≤ (sealB (encBody H.tb)).length from Nat.min_le_right _ _) (by wtm_at "a")))
      · exact Bd.ret (Ev.fault (Ev.tup (.cons rfl (Ev.ite0 h0 (Tq.eqN rfl (by wtm_at "lo") Ev.nat) (Ev.sealed hgn (by wtm_at "d") hr1 rfl (Ev.badd Ev.bytes (Ev.bfrom (by wtm_at "lo") Ev.nat (by decide) (by exact lin1 blen (by wtm_at "a"))) (by rw [List.length_drop]; simp; exact lin2 blen (Nat.le_of_eq (Nat.sub_add_cancel (show 4 ≤ (encBody H.tb).length from lin1 blen20 (by wtm_at "a")))) (by wtm_at "a"))) (by rw [List.length_append, List.length_drop]; simp; exact lin2 blen (Nat.le_of_eq (Nat.sub_add_cancel (show 4 ≤ (encBody H.tb).length from lin1 blen20 (by wtm_at "a")))) (by wtm_at "a")))) (.cons rfl Ev.str .nil)) (nb rfl)) (hk1.mono (by wtm_at "a")) (pu1) (by rw [sealB_len, List.length_append, List.length_drop]; simp; exact lin2 blen (Nat.le_of_eq (Nat.sub_add_cancel (show 4 ≤ (encBody H.tb).length from lin1 blen20 (by wtm_at "a")))) (by wtm_at "a")))
    clear h2
    refine Bd.ifr (Tq.eqN rfl (by wtm_at "lo") Ev.nat) (fun _ => ?_) (fun _ => ?_)
    · have hq : W1.draw ((sealB (encBody H.tb)).length - 4) < (sealB (encBody H.tb)).length - 4 := Well.draw_lt _ (by exact lin3 blen20 (Nat.le_of_eq slen.symm) (Nat.le_of_eq (Nat.sub_add_cancel (show 4 ≤ (sealB (encBody H.tb)).length from lin1 (Nat.le_of_eq slen.symm) (by wtm_at "a"))).symm) (by wtm_at "a"))
      have hq2 : W1.next.draw 255 < 255 := Well.draw_lt _ (by decide)
      have hk2 := hk1.next
      refine Bd.set (t1 := tN (4 + W1.draw ((sealB (encBody H.tb)).length - 4))) hnm (by wtm_at "ix") (by wtm_at "d") rfl (Ev.add Ev.nat (Ev.draw hgn (by wtm_at "d") hr1 rfl rfl (by wtm_at "lo") (Ev.sub (Ev.lenB hgn (by wtm_at "d") rfl (by wtm_at "lo") (by exact lin2 blen (Nat.le_of_eq slen) (by wtm_at "a"))) Ev.nat (by exact lin1 (Nat.le_of_eq slen.symm) (by wtm_at "a"))) hk1 (by exact lin1 hn (by wtm_at "a")) (by exact lin1 hq (by wtm_at "a")))) ?_
      generalize W1.draw ((sealB (encBody H.tb)).length - 4) = q at hq
      generalize W1.next = W2 at hk2 hq2
      exact Bd.ret (Ev.fault (Ev.tup (.cons rfl (Ev.badd (Ev.badd (Ev.bupto (by wtm_at "lo") (by wtm_at "lo") (by exact lin4 blen (Nat.le_of_eq slen) hq (Nat.le_of_eq (Nat.sub_add_cancel (show 4 ≤ (sealB (encBody H.tb)).length from lin1 (Nat.le_of_eq slen.symm) (by wtm_at "a")))) (by wtm_at "a")) (by exact lin2 blen (Nat.le_of_eq slen) (by wtm_at "a"))) (Ev.bytesL (ns := [(((sealB (encBody H.tb)).getD (4 + q) 0).toNat + 1 + W2.draw 255) % 256]) hgn (by wtm_at "d") rfl (Ev.list (.cons rfl (Ev.mod (Ev.add (Ev.add (Ev.byteI (by wtm_at "lo") (by wtm_at "lo") (by exact lin2 hq (Nat.le_of_eq (Nat.sub_add_cancel (show 4 ≤ (sealB (encBody H.tb)).length from lin1 (Nat.le_of_eq slen.symm) (by wtm_at "a")))) (by wtm_at "a")) (by exact lin2 blen (Nat.le_of_eq slen) (by wtm_at "a")) (fun _ _ _ _ => ⟨_, rfl⟩)) Ev.nat) (Ev.draw hgn (by wtm_at "d") hr1 rfl rfl (by wtm_at "lo") Ev.nat hk2 (by exact lin1 hn (by wtm_at "a")) (by decide))) Ev.nat (by decide)) .nil) (nb rfl)) (by simp; omega) (nb rfl)) (by rw [List.length_take]; simp; exact lin3 blen (Nat.le_of_eq slen) (show min (4 + q) (sealB (encBody H.tb)).length ≤ (sealB (encBody H.tb)).length from Nat.min_le_right _ _) (by wtm_at "a"))) (Ev.bfrom (by wtm_at "lo") (Ev.add (by wtm_at "lo") Ev.nat) (by exact lin4 blen (Nat.le_of_eq slen) hq (Nat.le_of_eq (Nat.sub_add_cancel (show 4 ≤ (sealB (encBody H.tb)).length from lin1 (Nat.le_of_eq slen.symm) (by wtm_at "a")))) (by wtm_at "a")) (by exact lin2 blen (Nat.le_of_eq slen) (by wtm_at "a"))) (by rw [List.length_append, List.length_take, List.length_drop]; simp; exact lin4 blen (Nat.le_of_eq slen) (show min (4 + q) (sealB (encBody H.tb)).length ≤ 4 + q from Nat.min_le_left _ _) (Nat.le_of_eq (Nat.sub_add_cancel (show 4 + q + 1 ≤ (sealB (encBody H.tb)).length from lin2 hq (Nat.le_of_eq (Nat.sub_add_cancel (show 4 ≤ (sealB (encBody H.tb)).length from lin1 (Nat.le_of_eq slen.symm) (by wtm_at "a")))) (by wtm_at "a")))) (by wtm_at "a"))) (.cons rfl Ev.str .nil)) (nb rfl)) (hk2.next.mono (by wtm_at "a")) (pu2 (by wtm_at "a") (by exact lin2 hq (Nat.le_of_eq (Nat.sub_add_cancel (show 4 ≤ (sealB (encBody H.tb)).length from lin1 (Nat.le_of_eq slen.symm) (by wtm_at "a")))) (by wtm_at "a")) hq2) (by rw [List.length_append, List.length_append, List.length_take, List.length_drop]; simp; exact lin4 blen (Nat.le_of_eq slen) (show min (4 + q) (sealB (encBody H.tb)).length ≤ 4 + q from Nat.min_le_left _ _) (Nat.le_of_eq (Nat.sub_add_cancel (show 4 + q + 1 ≤ (sealB (encBody H.tb)).length from lin2 hq (Nat.le_of_eq (Nat.sub_add_cancel (show 4 ≤ (sealB (encBody H.tb)).length from lin1 (Nat.le_of_eq slen.symm) (by wtm_at "a")))) (by wtm_at "a")))) (by wtm_at "a")))
    refine Bd.ifr (Tq.eqN rfl (by wtm_at "lo") Ev.nat) (fun _ => ?_) (fun _ => ?_)
    · obtain ⟨bo, hbo⟩ : ∃ bo, ([[0, 8], [8, 0], [9, 8]] : List (List UInt8))[pick]? = some bo := ⟨_, List.getElem?_eq_getElem (by exact hp)⟩
      have hbm := List.mem_of_getElem? hbo
      have okb : Tb.Ok { H.tb with bo := bo } := { tok with bo := by rcases (by simpa using hbm : bo = [0, 8] ∨ bo = [8, 0] ∨ bo = [9, 8]) with rfl | rfl | rfl <;> exact nb rfl }
      exact Bd.ret (Ev.fault (Ev.tup (.cons rfl (Ev.with_ (T := H.tb) (t := tB bo) hgn (by wtm_at "d") hr5 rfl rfl (by wtm_at "lo") (Ev.tupI (ts := ([[0, 8], [8, 0], [9, 8]] : List (List UInt8)).map tB) (Ev.tup (.cons rfl Ev.bytes (.cons rfl Ev.bytes (.cons rfl Ev.bytes .nil))) (nb rfl)) (by wtm_at "lo") (by rw [List.getElem?_map, hbo]; rfl) (nb rfl) (fun _ _ _ => ⟨_, rfl⟩)) (hs_of fun Z v r => set_bo r) okb) (.cons rfl Ev.str .nil)) (nb rfl)) (hk1.mono (by wtm_at "a")) (pu3 hbm) (sealed_len okb))
    have e0 : (([H.lb, H.mb].map Nat.toUInt8).getD 0 0).toNat = H.lb := by simp; exact lin1 hlb (by wtm_at "a")
    have e1 : (([H.lb, H.mb].map Nat.toUInt8).getD 1 0).toNat = H.mb := by simp; exact lin1 hmb (by wtm_at "a")
    refine Bd.ifr (Tq.eqN rfl (by wtm_at "lo") Ev.nat) (fun _ => ?_) (fun _ => ?_)
    · have okb : Tb.Ok { H.tb with bo := [(H.lb + 128).toUInt8, 0, H.mb.toUInt8] } := { tok with bo := (nb rfl) }
      exact Bd.ret (Ev.fault (Ev.tup (.cons rfl (Ev.with_ (T := H.tb) (t := tB [(H.lb + 128).toUInt8, 0, H.mb.toUInt8]) hgn (by wtm_at "d") hr5 rfl rfl (by wtm_at "lo") (Ev.bytesL (ns := [H.lb + 128, 0, H.mb]) hgn (by wtm_at "d") rfl (Ev.list (ts := [tN (H.lb + 128), tN 0, tN H.mb]) (.cons rfl (Ev.add ((Ev.byteI (by wtm_at "lo") Ev.nat (nb rfl) (nb rfl) (fun _ _ _ _ => ⟨_, rfl⟩)).cast (congrArg tN e0)) Ev.nat) (.cons rfl Ev.nat (.cons rfl ((Ev.byteI (by wtm_at "lo") Ev.nat (nb rfl) (nb rfl) (fun _ _ _ _ => ⟨_, rfl⟩)).cast (congrArg tN e1)) .nil))) (nb rfl)) (by simp; omega) (nb rfl)) (hs_of fun Z v r => set_bo r) okb) (.cons rfl Ev.str .nil)) (nb rfl)) (hk1.mono (by wtm_at "a")) (pu4 ok) (sealed_len okb))
    refine Bd.ifr (Tq.eqN rfl (by wtm_at "lo") Ev.nat) (fun _ => ?_) (fun _ => ?_)
    · have okb : Tb.Ok { H.tb with bo := [(H.lb + 128).toUInt8, 128, 128, 128, 128, 1, 8] } := { tok with bo := (nb rfl) }
      exact Bd.ret (Ev.fault (Ev.tup (.cons rfl (Ev.with_ (T := H.tb) (t := tB [(H.lb + 128).toUInt8, 128, 128, 128, 128, 1, 8]) hgn (by wtm_at "d") hr5 rfl rfl (by wtm_at "lo") (Ev.bytesL (ns := [H.lb + 128, 128, 128, 128, 128, 1, 8]) hgn (by wtm_at "d") rfl (Ev.list (ts := [tN (H.lb + 128), tN 128, tN 128, tN 128, tN 128, tN 1, tN 8]) (.cons rfl (Ev.add ((Ev.byteI (by wtm_at "lo") Ev.nat (nb rfl) (nb rfl) (fun _ _ _ _ => ⟨_, rfl⟩)).cast (congrArg tN e0)) Ev.nat) (.cons rfl Ev.nat (.cons rfl Ev.nat (.cons rfl Ev.nat (.cons rfl Ev.nat (.cons rfl Ev.nat (.cons rfl Ev.nat .nil))))))) (nb rfl)) (by simp; exact lin1 hlb (by wtm_at "a")) (nb rfl)) (hs_of fun Z v r => set_bo r) okb) (.cons rfl Ev.str .nil)) (nb rfl)) (hk1.mono (by wtm_at "a")) (pu5 ok) (sealed_len okb))
    have hlow := Shape.lows_le ok
    have hmid := Shape.mids_len ok
    have hll : H.tb.lows.length ≤ 4 := hlow.2
    have hml : H.tb.mids.length ≤ 4 := by have := hlow.2; rw [← hmid] at this; exact this
    have hwl : H.tb.ws.length ≤ 3 := by rw [show H.tb.ws.length = H.many from by show ((List.range H.many).map _).length = _; rw [List.length_map, List.length_range]]; exact ok.m3
    have hsz : 64 ≤ 2 ^ H.lb ∧ 2 ^ H.lb ≤ 1024 := ⟨show 2 ^ 6 ≤ 2 ^ H.lb from Nat.pow_le_pow_right (by decide) hble.l6, Nat.le_trans (Nat.pow_le_pow_right (by decide) hlb) (by decide)⟩
    have okl : ∀ r : List (Nat × Nat), SmallRow 100 r → Tb.Ok { H.tb with lows := [r] ++ H.lows.drop 1 } := fun r hr => { tok with ln := by (show (r :: H.lows.drop 1).length ≤ 1000); rw [List.length_cons, List.length_drop]; have := tok.ln; (change H.lows.length ≤ 1000 at this); exact lin2 hlow.2 (Nat.le_of_eq (Nat.sub_add_cancel (show 1 ≤ H.lows.length from lin1 hlow.1 (by wtm_at "a")))) (by wtm_at "a"), ls := fun x hx => by (rcases List.mem_cons.mp hx with rfl | hx); exact hr; exact tok.ls x (List.mem_of_mem_drop hx) }
    have sm1 : ∀ m k : Nat, m ≤ 5000 → k ≤ 5000 → SmallRow 100 [(m, k)] := fun m k h1 h2 => ⟨nb rfl, fun p hp => by rw [List.mem_singleton] at hp; subst hp; exact ⟨by show m < _; exact lin1 (b := 9223372036854775808) h1 (by wtm_at "a"), by show k < _; exact lin1 (b := 9223372036854775808) h2 (by wtm_at "a")⟩⟩
    have sm2 : ∀ m k m' k' : Nat, m ≤ 5000 → k ≤ 5000 → m' ≤ 2000000 → k' ≤ 5000 → SmallRow 100 [(m, k), (m', k')] := fun m k m' k' h1 h2 h3 h4 => ⟨nb rfl, fun p hp => by
      rcases List.mem_cons.mp hp with rfl | hp
      · exact ⟨by show m < _; exact lin1 (b := 9223372036854775808) h1 (by wtm_at "a"), by show k < _; exact lin1 (b := 9223372036854775808) h2 (by wtm_at "a")⟩
      · rw [List.mem_singleton] at hp; subst hp; exact ⟨by show m' < _; exact lin1 (b := 9223372036854775808) h3 (by wtm_at "a"), by show k' < _; exact lin1 (b := 9223372036854775808) h4 (by wtm_at "a")⟩⟩
    refine Bd.ifr (Tq.eqN rfl (by wtm_at "lo") Ev.nat) (fun _ => ?_) (fun _ => ?_)
    · have okb : Tb.Ok { H.tb with ws := H.ws ++ H.ws.take 1 } := { tok with wn := by (show (H.ws ++ H.ws.take 1).length ≤ 100); rw [List.length_append, List.length_take]; (change H.ws.length ≤ 3 at hwl); exact lin2 hwl (show min 1 H.ws.length ≤ 1 from Nat.min_le_left _ _) (by wtm_at "a"), wl := fun x hx => by (rcases List.mem_append.mp hx with hx | hx); exact tok.wl x hx; exact tok.wl x (List.mem_of_mem_take hx) }
      exact Bd.ret (Ev.fault (Ev.tup (.cons rfl (Ev.with_ (T := H.tb) (t := tBs (H.ws ++ H.ws.take 1)) hgn (by wtm_at "d") hr5 rfl rfl (by wtm_at "lo") ((Ev.ladd (Ev.tbWs (T := H.tb) (by wtm_at "lo")) (Ev.lupto (Ev.tbWs (T := H.tb) (by wtm_at "lo")) Ev.nat (by decide) (by rw [List.length_map]; exact lin1 hwl (by wtm_at "a"))) (by rw [List.length_take, List.length_map]; exact lin2 hwl (show min 1 H.tb.ws.length ≤ 1 from Nat.min_le_left _ _) (by wtm_at "a"))).cast (by rw [tBs, List.map_append, List.map_take]; rfl)) (hs_of fun Z v r => set_ws (tBs_iff.mp r)) okb) (.cons rfl Ev.str .nil)) (nb rfl)) (hk1.mono (by wtm_at "a")) (pu6 ok) (sealed_len okb))
    refine Bd.ifr (Tq.eqN rfl (by wtm_at "lo") Ev.nat) (fun _ => ?_) (fun _ => ?_)
    · obtain ⟨m, hm⟩ : ∃ m, [0, 2 ^ H.lb + 1, 2 ^ H.lb - 1][pick]? = some m := ⟨_, List.getElem?_eq_getElem (by exact hp)⟩
      have hm' := List.mem_of_getElem? hm
      have hm3 : m = 0 ∨ m = 2 ^ H.lb + 1 ∨ m = 2 ^ H.lb - 1 := by simpa using hm'
      have okb := okl [(m, 0)] (sm1 m 0 (by omega) (by wtm_at "a"))
      exact Bd.ret (Ev.fault (Ev.tup (.cons rfl (Ev.with_ (T := H.tb) (t := tStage ([[(m, 0)]] ++ H.lows.drop 1)) hgn (by wtm_at "d") hr5 rfl rfl (by wtm_at "lo") ((Ev.ladd (Ev.list (.cons rfl (Ev.list (.cons rfl (Ev.tup (.cons rfl (Ev.tupI (ts := [0, 2 ^ H.lb + 1, 2 ^ H.lb - 1].map tN) (Ev.tup (.cons rfl Ev.nat (.cons rfl (Ev.add (by wtm_at "lo") Ev.nat) (.cons rfl (Ev.sub (by wtm_at "lo") Ev.nat (by exact lin1 hsz.1 (by wtm_at "a"))) .nil))) (nb rfl)) (by wtm_at "lo") (by rw [List.getElem?_map, hm]; rfl) (nb rfl) (fun _ _ _ => ⟨_, rfl⟩)) (.cons rfl Ev.nat .nil)) (nb rfl)) .nil) (nb rfl)) .nil) (nb rfl)) (Ev.lfrom (Ev.tbLows (T := H.tb) (by wtm_at "lo")) Ev.nat (by decide) (by rw [List.length_map]; exact lin1 hll (by wtm_at "a"))) (by rw [List.length_drop, List.length_map]; simp; exact lin2 hll (show H.tb.lows.length - 1 ≤ H.tb.lows.length from Nat.sub_le _ _) (by wtm_at "a"))).cast (by rw [tStage, List.map_append, List.map_drop]; rfl)) (hs_of fun Z v r => set_lows (tStage_iff.mp r)) okb) (.cons rfl Ev.str .nil)) (nb rfl)) (hk1.mono (by wtm_at "a")) (pu7 ok hm3) (sealed_len okb))
    refine Bd.ifr (Tq.eqN rfl (by wtm_at "lo") Ev.nat) (fun _ => ?_) (fun _ => ?_)
    · have okb := okl [(2 ^ H.lb, H.ws.length + pick)] (sm1 _ _ (by exact lin1 hsz.2 (by wtm_at "a")) (by change H.ws.length ≤ 3 at hwl; exact lin2 hp hwl (by wtm_at "a")))
      exact Bd.ret (Ev.fault (Ev.tup (.cons rfl (Ev.with_ (T := H.tb) (t := tStage ([[(2 ^ H.lb, H.ws.length + pick)]] ++ H.lows.drop 1)) hgn (by wtm_at "d") hr5 rfl rfl (by wtm_at "lo") ((Ev.ladd (Ev.list (.cons rfl (Ev.list (.cons rfl (Ev.tup (.cons rfl (by wtm_at "lo") (.cons rfl (Ev.add ((Ev.len hgn (by wtm_at "d") rfl (Ev.tbWs (T := H.tb) (by wtm_at "lo")) (by rw [List.length_map]; exact lin1 hwl (by wtm_at "a"))).cast (congrArg tN (List.length_map _))) (by wtm_at "lo")) .nil)) (nb rfl)) .nil) (nb rfl)) .nil) (nb rfl)) (Ev.lfrom (Ev.tbLows (T := H.tb) (by wtm_at "lo")) Ev.nat (by decide) (by rw [List.length_map]; exact lin1 hll (by wtm_at "a"))) (by rw [List.length_drop, List.length_map]; simp; exact lin2 hll (show H.tb.lows.length - 1 ≤ H.tb.lows.length from Nat.sub_le _ _) (by wtm_at "a"))).cast (by rw [tStage, List.map_append, List.map_drop]; rfl)) (hs_of fun Z v r => set_lows (tStage_iff.mp r)) okb) (.cons rfl Ev.str .nil)) (nb rfl)) (hk1.mono (by wtm_at "a")) (pu8 ok hp) (sealed_len okb))
    refine Bd.ifr (Tq.eqN rfl (by wtm_at "lo") Ev.nat) (fun _ => ?_) (fun _ => ?_)
    · have okb := okl [(1 + pick, 0), (2 ^ H.lb - 1 - pick, 0)] (sm2 _ _ _ _ (by exact lin1 hp (by wtm_at "a")) (by wtm_at "a") (by exact lin3 hsz.2 (Nat.le_of_eq (Nat.sub_add_cancel (show 1 ≤ 2 ^ H.lb from lin1 hsz.1 (by wtm_at "a")))) (Nat.le_of_eq (Nat.sub_add_cancel (show pick ≤ 2 ^ H.lb - 1 from lin3 hp hsz.1 (Nat.le_of_eq (Nat.sub_add_cancel (show 1 ≤ 2 ^ H.lb from lin1 hsz.1 (by wtm_at "a"))).symm) (by wtm_at "a")))) (by wtm_at "a")) (by wtm_at "a"))
      exact Bd.ret (Ev.fault (Ev.tup (.cons rfl (Ev.with_ (T := H.tb) (t := tStage ([[(1 + pick, 0), (2 ^ H.lb - 1 - pick, 0)]] ++ H.lows.drop 1)) hgn (by wtm_at "d") hr5 rfl rfl (by wtm_at "lo") ((Ev.ladd (Ev.list (.cons rfl (Ev.list (.cons rfl (Ev.tup (.cons rfl (Ev.add Ev.nat (by wtm_at "lo")) (.cons rfl Ev.nat .nil)) (nb rfl)) (.cons rfl (Ev.tup (.cons rfl (Ev.sub (Ev.sub (by wtm_at "lo") Ev.nat (by exact lin1 hsz.1 (by wtm_at "a"))) (by wtm_at "lo") (by exact lin3 hp hsz.1 (Nat.le_of_eq (Nat.sub_add_cancel (show 1 ≤ 2 ^ H.lb from lin1 hsz.1 (by wtm_at "a"))).symm) (by wtm_at "a"))) (.cons rfl Ev.nat .nil)) (nb rfl)) .nil)) (nb rfl)) .nil) (nb rfl)) (Ev.lfrom (Ev.tbLows (T := H.tb) (by wtm_at "lo")) Ev.nat (by decide) (by rw [List.length_map]; exact lin1 hll (by wtm_at "a"))) (by rw [List.length_drop, List.length_map]; simp; exact lin2 hll (show H.tb.lows.length - 1 ≤ H.tb.lows.length from Nat.sub_le _ _) (by wtm_at "a"))).cast (by rw [tStage, List.map_append, List.map_drop]; rfl)) (hs_of fun Z v r => set_lows (tStage_iff.mp r)) okb) (.cons rfl Ev.str .nil)) (nb rfl)) (hk1.mono (by wtm_at "a")) (pu9 ok hp) (sealed_len okb))
    refine Bd.ifr (Tq.eqN rfl (by wtm_at "lo") Ev.nat) (fun _ => ?_) (fun _ => ?_)
    · have okb : Tb.Ok { H.tb with mids := H.mids ++ H.mids.take 1 } := { tok with mn := by (show (H.mids ++ H.mids.take 1).length ≤ 1000); rw [List.length_append, List.length_take]; (change H.mids.length ≤ 4 at hml); exact lin3 hlow.2 (Nat.le_of_eq hmid) (show min 1 H.mids.length ≤ 1 from Nat.min_le_left _ _) (by wtm_at "a"), ms := fun x hx => by (rcases List.mem_append.mp hx with hx | hx); exact tok.ms x hx; exact tok.ms x (List.mem_of_mem_take hx) }
      exact Bd.ret (Ev.fault (Ev.tup (.cons rfl (Ev.with_ (T := H.tb) (t := tStage (H.mids ++ H.mids.take 1)) hgn (by wtm_at "d") hr5 rfl rfl (by wtm_at "lo") ((Ev.ladd (Ev.tbMids (T := H.tb) (by wtm_at "lo")) (Ev.lupto (Ev.tbMids (T := H.tb) (by wtm_at "lo")) Ev.nat (by decide) (by rw [List.length_map]; exact lin1 hml (by wtm_at "a"))) (by rw [List.length_take, List.length_map]; exact lin2 hml (show min 1 H.tb.mids.length ≤ 1 from Nat.min_le_left _ _) (by wtm_at "a"))).cast (by rw [tStage, List.map_append, List.map_take]; rfl)) (hs_of fun Z v r => set_mids (tStage_iff.mp r)) okb) (.cons rfl Ev.str .nil)) (nb rfl)) (hk1.mono (by wtm_at "a")) (pu10 ok) (sealed_len okb))
    refine Bd.ifr (Tq.eqN rfl (by wtm_at "lo") Ev.nat) (fun _ => ?_) (fun _ => ?_)
    · exact Bd.ret (Ev.fault (Ev.tup (.cons rfl (Ev.sealed hgn (by wtm_at "d") hr1 rfl (Ev.badd (by wtm_at "lo") (Ev.bytesL (ns := [pick]) hgn (by wtm_at "d") rfl (Ev.list (.cons rfl (by wtm_at "lo") .nil) (nb rfl)) (by simp; exact lin1 hp (by wtm_at "a")) (nb rfl)) (by simp; exact lin1 blen (by wtm_at "a"))) (by simp; exact lin1 blen (by wtm_at "a"))) (.cons rfl Ev.str .nil)) (nb rfl)) (hk1.mono (by wtm_at "a")) (pu11 ok _) (by rw [sealB_len]; simp; exact lin1 blen (by wtm_at "a")))
    refine Bd.ifr (Tq.eqN rfl (by wtm_at "lo") Ev.nat) (fun _ => ?_) (fun _ => ?_)
    · exact Bd.ret (Ev.fault (Ev.tup (.cons rfl (Ev.sealed hgn (by wtm_at "d") hr1 rfl (Ev.bm1 (by wtm_at "lo") (by exact lin1 blen (by wtm_at "a"))) (by rw [List.length_dropLast]; exact lin2 blen (Nat.le_of_eq (Nat.sub_add_cancel (show 1 ≤ (encBody H.tb).length from lin1 blen20 (by wtm_at "a")))) (by wtm_at "a"))) (.cons rfl Ev.str .nil)) (nb rfl)) (hk1.mono (by wtm_at "a")) (pu12 ok) (by rw [sealB_len, List.length_dropLast]; exact lin2 blen (Nat.le_of_eq (Nat.sub_add_cancel (show 1 ≤ (encBody H.tb).length from lin1 blen20 (by wtm_at "a")))) (by wtm_at "a")))
    refine Bd.ifr (Tq.eqN rfl (by wtm_at "lo") Ev.nat) (fun _ => ?_) (fun _ => ?_)
    · have := encN_le (100 + pick) (by exact lin1 (b := 9223372036854775808) hp (by wtm_at "a"))
      exact Bd.ret (Ev.fault (Ev.tup (.cons rfl (Ev.sealed hgn (by wtm_at "d") hr1 rfl (Ev.badd (Ev.badd (Ev.badd (Ev.badd Ev.bytes (by wtm_at "lo") (nb rfl)) Ev.bytes (nb rfl)) (Ev.number hgn (by wtm_at "d") hr1 rfl (Ev.add Ev.nat (by wtm_at "lo")) (by exact lin1 (b := 9223372036854775808) hp (by wtm_at "a"))) (by simp; exact lin1 this (by wtm_at "a"))) Ev.bytes (by simp; exact lin1 this (by wtm_at "a"))) (by simp; exact lin1 this (by wtm_at "a"))) (.cons rfl Ev.str .nil)) (nb rfl)) (hk1.mono (by wtm_at "a")) (pu13 ok hp) (by rw [sealB_len]; simp; exact lin1 this (by wtm_at "a")))
    have hvl := encVals_len (ws := H.tb.ws) tok.wl tok.wn
    have hvn := encN_le H.tb.ws.length (by exact lin1 (b := 9223372036854775808) hwl (by wtm_at "a"))
    have hel : (encVals H.ws).length ≤ 100909 := by unfold encVals; rw [List.length_append]; (change ((H.ws.map fun v => encN v.length ++ v).flatten).length ≤ 100900 at hvl); (change (encN H.ws.length).length ≤ 9 at hvn); exact lin2 hvl hvn (by wtm_at "a")
    refine Bd.set (t1 := tB ([85, 84, 82, 73] ++ [H.lb, H.mb].map Nat.toUInt8 ++ encVals H.ws)) hnm (by wtm_at "ix") (by wtm_at "d") rfl (Ev.badd (Ev.badd Ev.bytes (by wtm_at "lo") (nb rfl)) (Ev.values hgn (by wtm_at "d") (hr.le (by decide)) rfl (Ev.tbWs (T := H.tb) (by wtm_at "lo")) tok.wn tok.wl) (by simp; exact lin1 hel (by wtm_at "a"))) ?_
    refine Bd.ifr (Tq.eqN rfl (by wtm_at "lo") Ev.nat) (fun _ => ?_) (fun _ => ?_)
    · have hq : 1114112 / 2 ^ H.lb ≤ 1114112 := Nat.div_le_self _ _
      have := encN_le (1114112 / 2 ^ H.lb + 1 + pick) (by exact lin2 (b := 9223372036854775808) hp hq (by wtm_at "a"))
      exact Bd.ret (Ev.fault (Ev.tup (.cons rfl (Ev.sealed hgn (by wtm_at "d") hr1 rfl (Ev.badd (Ev.badd (by wtm_at "lo") (Ev.number hgn (by wtm_at "d") hr1 rfl (Ev.add (Ev.add (Ev.fdiv Ev.nat (by wtm_at "lo") (by exact lin1 hsz.1 (by wtm_at "a")) (by exact lin1 (b := 1073741824) hsz.2 (by wtm_at "a"))) Ev.nat) (by wtm_at "lo")) (by exact lin2 (b := 9223372036854775808) hp hq (by wtm_at "a"))) (by simp; exact lin2 hel this (by wtm_at "a"))) Ev.bytes (by simp; exact lin2 hel this (by wtm_at "a"))) (by simp; exact lin2 hel this (by wtm_at "a"))) (.cons rfl Ev.str .nil)) (nb rfl)) (hk1.mono (by wtm_at "a")) (pu14 ok hp) (by rw [sealB_len]; simp; exact lin2 hel this (by wtm_at "a")))
    have okw : ∀ x : List UInt8, x.length ≤ 10 → Tb.Ok { H.tb with ws := H.ws ++ [x] } := fun x hx => { tok with wn := by (show (H.ws ++ [x]).length ≤ 100); rw [List.length_append]; (change H.ws.length ≤ 3 at hwl); simp; exact lin1 hwl (by wtm_at "a"), wl := fun y hy => by (rcases List.mem_append.mp hy with hy | hy); exact tok.wl y hy; (rw [List.mem_singleton] at hy); subst hy; exact lin1 hx (by wtm_at "a") }
    refine Bd.ifr (Tq.eqN rfl (by wtm_at "lo") Ev.nat) (fun _ => ?_) (fun _ => ?_)
    · have okb := okw [122, 122] (by decide)
      exact Bd.ret (Ev.fault (Ev.tup (.cons rfl (Ev.with_ (T := H.tb) (t := tBs (H.ws ++ [[122, 122]])) hgn (by wtm_at "d") hr5 rfl rfl (by wtm_at "lo") ((Ev.ladd (Ev.tbWs (T := H.tb) (by wtm_at "lo")) (Ev.list (.cons rfl Ev.bytes .nil) (nb rfl)) (by rw [List.length_map]; simp; exact lin1 hwl (by wtm_at "a"))).cast (by rw [tBs, List.map_append]; rfl)) (hs_of fun Z v r => set_ws (tBs_iff.mp r)) okb) (.cons rfl Ev.str .nil)) (nb rfl)) (hk1.mono (by wtm_at "a")) (pu15 ok) (sealed_len okb))
    refine Bd.ifr (Tq.eqN rfl (by wtm_at "lo") Ev.nat) (fun _ => ?_) (fun _ => ?_)
    · refine Bd.ifr (Tq.eqN rfl ((Ev.len hgn (by wtm_at "d") rfl (Ev.tbWs (T := H.tb) (by wtm_at "lo")) (by rw [List.length_map]; exact lin1 hwl (by wtm_at "a"))).cast (congrArg tN (List.length_map _))) Ev.nat) (fun h1 => ?_) (fun h1 => ?_)
      · have okb := okw [121, 121, 121] (by decide)
        exact Bd.ret (Ev.fault (Ev.tup (.cons rfl (Ev.with_ (T := H.tb) (t := tBs (H.ws ++ [[121, 121, 121]])) hgn (by wtm_at "d") hr5 rfl rfl (by wtm_at "lo") ((Ev.ladd (Ev.tbWs (T := H.tb) (by wtm_at "lo")) (Ev.list (.cons rfl Ev.bytes .nil) (nb rfl)) (by rw [List.length_map]; simp; exact lin1 (Nat.le_of_eq h1) (by wtm_at "a"))).cast (by rw [tBs, List.map_append]; rfl)) (hs_of fun Z v r => set_ws (tBs_iff.mp r)) okb) (.cons rfl Ev.str .nil)) (nb rfl)) (hk1.mono (by wtm_at "a")) (pu16a ok h1) (sealed_len okb))
      · have okb : Tb.Ok { H.tb with lows := H.lows ++ [[(1 + pick, 1), (2 ^ H.lb - 1 - pick, 0)]] } := { tok with ln := by (show (H.lows ++ [_]).length ≤ 1000); rw [List.length_append]; (change H.lows.length ≤ 4 at hll); simp; exact lin1 hll (by wtm_at "a"), ls := fun x hx => by (rcases List.mem_append.mp hx with hx | hx); exact tok.ls x hx; (rw [List.mem_singleton] at hx); subst hx; exact sm2 _ _ _ _ (by exact lin1 hp (by wtm_at "a")) (by wtm_at "a") (by exact lin3 hsz.2 (Nat.le_of_eq (Nat.sub_add_cancel (show 1 ≤ 2 ^ H.lb from lin1 hsz.1 (by wtm_at "a")))) (Nat.le_of_eq (Nat.sub_add_cancel (show pick ≤ 2 ^ H.lb - 1 from lin3 hp hsz.1 (Nat.le_of_eq (Nat.sub_add_cancel (show 1 ≤ 2 ^ H.lb from lin1 hsz.1 (by wtm_at "a"))).symm) (by wtm_at "a")))) (by wtm_at "a")) (by wtm_at "a") }
        exact Bd.ret (Ev.fault (Ev.tup (.cons rfl (Ev.with_ (T := H.tb) (t := tStage (H.lows ++ [[(1 + pick, 1), (2 ^ H.lb - 1 - pick, 0)]])) hgn (by wtm_at "d") hr5 rfl rfl (by wtm_at "lo") ((Ev.ladd (Ev.tbLows (T := H.tb) (by wtm_at "lo")) (Ev.list (.cons rfl (Ev.list (.cons rfl (Ev.tup (.cons rfl (Ev.add Ev.nat (by wtm_at "lo")) (.cons rfl Ev.nat .nil)) (nb rfl)) (.cons rfl (Ev.tup (.cons rfl (Ev.sub (Ev.sub (by wtm_at "lo") Ev.nat (by exact lin1 hsz.1 (by wtm_at "a"))) (by wtm_at "lo") (by exact lin3 hp hsz.1 (Nat.le_of_eq (Nat.sub_add_cancel (show 1 ≤ 2 ^ H.lb from lin1 hsz.1 (by wtm_at "a"))).symm) (by wtm_at "a"))) (.cons rfl Ev.nat .nil)) (nb rfl)) .nil)) (nb rfl)) .nil) (nb rfl)) (by rw [List.length_map]; simp; exact lin1 hll (by wtm_at "a"))).cast (by rw [tStage, List.map_append]; rfl)) (hs_of fun Z v r => set_lows (tStage_iff.mp r)) okb) (.cons rfl Ev.str .nil)) (nb rfl)) (hk1.mono (by wtm_at "a")) (pu16b ok hp h1) (sealed_len okb))
    have hts := pu_topsum ok
    have htl : H.top.length ≤ 100 := tok.ts.1
    refine Bd.set (t1 := tN (H.top.map (·.1)).sum) hnm (by wtm_at "ix") (by wtm_at "d") rfl (Ev.sum hgn (by wtm_at "d") rfl (Ev.firsts (ps := H.top) (Ev.tbTop (T := H.tb) (by wtm_at "lo")) (by exact lin1 htl (by wtm_at "a")) (fun _ => rfl) (closureFor_none (by decide)) rfl (by wtm_at "d") (by decide) (by kernel_rfl) (by kernel_rfl) (by decide) (by kernel_rfl))) ?_
    refine Bd.set (t1 := tS (if 1 < H.mids.length then "numbers in another order" else "a number of nothing")) hnm (by wtm_at "ix") (by wtm_at "d") rfl (Ev.ite (Tq.gtN rfl ((Ev.len hgn (by wtm_at "d") rfl (Ev.tbMids (T := H.tb) (by wtm_at "lo")) (by rw [List.length_map]; exact lin1 hml (by wtm_at "a"))).cast (congrArg tN (List.length_map _))) Ev.nat) (fun h1 => Ev.str.cast (by rw [if_pos (show 1 < H.mids.length from h1)])) (fun h1 => Ev.str.cast (by rw [if_neg (show ¬ 1 < H.mids.length from h1)]))) ?_
    have okb : Tb.Ok { H.tb with top := [(1 + pick, 1), ((H.top.map (·.1)).sum - 1 - pick, 0)] } := { tok with ts := sm2 _ _ _ _ (by exact lin1 hp (by wtm_at "a")) (by wtm_at "a") (by exact lin3 hts.2 (Nat.le_of_eq (Nat.sub_add_cancel (show 1 ≤ (List.map (fun x => x.fst) H.top).sum from lin1 hts.1 (by wtm_at "a")))) (Nat.le_of_eq (Nat.sub_add_cancel (show pick ≤ (List.map (fun x => x.fst) H.top).sum - 1 from lin3 hp hts.1 (Nat.le_of_eq (Nat.sub_add_cancel (show 1 ≤ (List.map (fun x => x.fst) H.top).sum from lin1 hts.1 (by wtm_at "a"))).symm) (by wtm_at "a")))) (by wtm_at "a")) (by wtm_at "a") }
    exact Bd.ret (Ev.fault (Ev.tup (.cons rfl (Ev.with_ (T := H.tb) (t := tRow [(1 + pick, 1), ((H.top.map (·.1)).sum - 1 - pick, 0)]) hgn (by wtm_at "d") hr5 rfl rfl (by wtm_at "lo") (Ev.list (.cons rfl (Ev.tup (.cons rfl (Ev.add Ev.nat (by wtm_at "lo")) (.cons rfl Ev.nat .nil)) (nb rfl)) (.cons rfl (Ev.tup (.cons rfl (Ev.sub (Ev.sub (by wtm_at "lo") Ev.nat (by exact lin1 hts.1 (by wtm_at "a"))) (by wtm_at "lo") (by exact lin3 hp hts.1 (Nat.le_of_eq (Nat.sub_add_cancel (show 1 ≤ (List.map (fun x => x.fst) H.top).sum from lin1 hts.1 (by wtm_at "a"))).symm) (by wtm_at "a"))) (.cons rfl Ev.nat .nil)) (nb rfl)) .nil)) (nb rfl)) (hs_of fun Z v r => set_top (tRow_iff.mp r)) okb) (.cons rfl (by wtm_at "lo") .nil)) (nb rfl)) (hk1.mono (by wtm_at "a")) (pu17 ok hp) (sealed_len okb))
end
section
variable {w : World} {A : Around} {env : Env} {G : Gh} {outer : List Env} {Z : Zt} {vs : List (Option Value)} {mt : List (Addr × Obj)} {s : Shared} {E : Value → Shared → Prop}
theorem St.turn2 {e it : Addr} {oe oi oe' oi' : Obj} {h' : Heap} {tk : Tok} (S : St G Z vs ((e, oe) :: (it, oi) :: mt) s) (he : h'.get? e = some oe') (hi : h'.get? it = some oi') (hk : ∀ b o, b ≠ e → b ≠ it → s.heap.get? b = some o → h'.get? b = some o) :
    St G Z vs ((e, oe') :: (it, oi') :: mt) { s with heap := h', toks := tk } := by
  have Me := S.mu _ (.head _)
  have Mi := S.mu _ (.tail _ (.head _))
  have nd := S.nd
  rw [List.map_cons, List.map_cons, List.nodup_cons, List.nodup_cons] at nd
  have ne : ∀ b o, G.h₀.get? b = some o → b ∉ G.ft → b ≠ e ∧ b ≠ it := fun b o hb hf => by
    refine ⟨?_, ?_⟩ <;> rintro rfl
    · rcases Me.2.2.2.1 with q | q
      · exact hf q
      · rw [q] at hb; cases hb
    · rcases Mi.2.2.2.1 with q | q
      · exact hf q
      · rw [q] at hb; cases hb
  refine ⟨?_, S.len, S.newL, fun b o hb h1 h2 => ?_, fun b o hb h1 => ?_, fun b o hb => ?_, fun b o hz => ?_, S.zs, S.zn, S.zL, S.zF, fun p hp => ?_, S.nd, S.gens, S.drawn, S.os⟩
  · obtain ⟨o, es, ep, ho, r⟩ := S.ns
    exact ⟨o, es, ep, hk _ _ (Ne.symm Me.2.1) (Ne.symm Mi.2.1) ho, r⟩
  · have q := ne b o hb h1
    exact hk _ _ q.1 q.2 (S.keep b o hb h1 h2)
  · obtain ⟨sl, q⟩ := S.keepF b o hb h1
    exact ⟨sl, hk _ _ (fun x => Me.2.2.1 (x ▸ h1)) (fun x => Mi.2.2.1 (x ▸ h1)) q⟩
  · show (h'.get? b).isSome = true
    by_cases q1 : b = e
    · rw [q1, he]; rfl
    by_cases q2 : b = it
    · rw [q2, hi]; rfl
    obtain ⟨o', q⟩ := Option.isSome_iff_exists.mp (S.live b o hb)
    rw [hk _ _ q1 q2 q]; rfl
  · exact hk _ _ (fun x => Me.2.2.2.2 o (x ▸ hz)) (fun x => Mi.2.2.2.2 o (x ▸ hz)) (S.z b o hz)
  · rcases List.mem_cons.mp hp with rfl | hp
    · exact ⟨he, Me.2⟩
    · rcases List.mem_cons.mp hp with rfl | hp
      · exact ⟨hi, Mi.2⟩
      · have M := S.mu _ (.tail _ (.tail _ hp))
        exact ⟨hk _ _ (fun x => nd.1 (.tail _ (List.mem_map.mpr ⟨p, hp, x⟩))) (fun x => nd.2.1 (List.mem_map.mpr ⟨p, hp, x⟩)) M.1, M.2⟩
theorem St.own2 {mt' : List (Addr × Obj)} {s' : Shared} {b : Addr} {o : Obj} (S : St G Z vs mt s) (S' : St G Z vs mt' s') (hn : s.heap.get? b = none) (ha : s'.heap.get? b = some o) (hfr : ∀ b ∈ G.fr, (s.heap.get? b).isSome = true) (hm : mt'.map (·.1) = mt.map (·.1)) : St G Z vs ((b, o) :: mt') s' := by
  have hL : b ≠ G.L := by rintro rfl; obtain ⟨o, _, _, ho, _⟩ := S.ns; rw [hn] at ho; cases ho
  have hF : b ∉ G.fr := fun q => by have := hfr b q; rw [hn] at this; cases this
  have h0 : G.h₀.get? b = none := by
    cases q : G.h₀.get? b with
    | none => rfl
    | some o' => have := S.live b o' q; rw [hn] at this; cases this
  refine { S' with mu := fun p hp => ?_, nd := ?_ }
  · rcases List.mem_cons.mp hp with rfl | hp
    · exact ⟨ha, hL, hF, .inr h0, fun o za => by have := S.z _ _ za; rw [hn] at this; cases this⟩
    · exact S'.mu p hp
  · rw [List.map_cons, List.nodup_cons]
    refine ⟨fun q => ?_, S'.nd⟩
    rw [hm] at q
    obtain ⟨p, hp, e⟩ := List.mem_map.mp q
    have := (S.mu p hp).1
    rw [e, hn] at this; cases this
noncomputable abbrev enumO (it : Addr) (i : Int) (old : Value) : Obj := { cls := .type "enumerate", dict := none, data := .fields #[.none, .bool false, .ref it, rawInt i, .none, old], slots := #[] }
noncomputable def Below (B : Nat) (ys : List Value) : Prop := ∃ gs : List Nat, (∀ g ∈ gs, g < B) ∧ All2 IntV ys gs
inductive EInv (cs : List Nat) (B : Nat) (l : Addr) (Z : Zt) (G : Gh) (e it C acc : Addr) (vs : List (Option Value)) (mt : List (Addr × Obj)) (k : Nat) (s : Shared) : Prop
  | mk (i : Nat) (Z' : Zt) (old : Value) (oi : Obj) (ys : List Value) (n : Nat) (m : Str → Option Value) (oC : Obj) (hk : k = cs.length - i) (hi : i ≤ cs.length) (hy' : ys.length = i) (hg : Below B ys) (hz : ∀ a o, Z a o → Z' a o) (nC : NsO m oC) (ho : oi.cls = .type "list_iterator" ∧ oi.data = .fields #[.ref l, .int ((i : Nat) : Int) 0]) (S : St G Z' vs ((e, enumO it (i : Int) old) :: (it, oi) :: (C, oC) :: (acc, Lo ys n) :: mt) s)
theorem comp_enum (a : Act w A env G outer) {scope : Scope} {iter elt : PySem.Expr} {pos xp yp tp : Pos} {x y : Str} {k : Nat} {RR : Value → Addr → Result → Shared → Prop} {e it l : Addr} {oi : Obj} {old : Value} {xs : List Value} {cs : List Nat} {c B : Nat}
    (hcell : ∀ y ∈ scope.names, y.2 ≠ .cell) (hkind : scope.kind = .function) (hx : scope.names.lookup x = some .local) (hy : scope.names.lookup y = some .local) (hxy : x ≠ y)
    (hl : Z l (Lo xs c)) (hxs : All2 IntV xs cs) (hz : cs.length ≤ 1000) (hie : e ∉ G.ft) (hii : it ∉ G.ft) (ho : oi.cls = .type "list_iterator" ∧ oi.data = .fields #[.ref l, .int ((0 : Nat) : Int) 0]) (S : St G Z vs ((e, enumO it ((0 : Nat) : Int) old) :: (it, oi) :: mt) s)
    (hE : ∀ (i n : Nat) (t1 t2 : Tok) (C : Addr) (oC : Obj) (m : Str → Option Value) (Z : Zt) (mt : List (Addr × Obj)) (s : Shared) (Q E : Value → Shared → Prop), cs[i]? = some n → NsO m oC → m x = some (.int (i : Int) t1) → m y = some (.int (n : Int) t2) → St G Z vs ((C, oC) :: mt) s →
      (∀ g t s', g < B → St G Z vs ((C, oC) :: mt) s' → Q (.int ((g : Nat) : Int) t) s') → wpAny (model P w) A (eval elt (compEnvC scope [] C env)) Q E s)
    (hR : ∀ acc C Z' ys n m oC s', (∀ a o, Z a o → Z' a o) → Below B ys → ys.length = cs.length → NsO m oC → acc ∉ G.ft → C ∉ G.ft → St G Z' vs ((C, oC) :: (acc, Lo ys n) :: mt) s' → RR (.ref acc) C (.ok .next) s') :
    wpAny (model P w) A (newList []) (fun acc s₃ => wpAny (model P w) A (newFunctionEnv scope env.globals [] [] env.qual none .none (some env)) (fun cenv s₄ =>
      codeAny (model P w) A (.compStart (.ListComp elt [⟨.Tuple [.Name x xp, .Name y yp] k tp, iter, [], 0⟩] scope pos) 0 (.ref e) acc { cenv with scope := relabel scope env }) (RR acc cenv.locals) s₄) E s₃) E s := by
  have hlen := hxs.length
  refine R_newList a S (Nat.zero_le _) fun acc s1 S1 fr1 => ?_
  refine wpAny_newFunctionEnv hcell (by intro y hy; simp at hy) (fun h₁ hns hsb => ?_) hkind
  have hC0 : s1.heap.get? s1.heap.objs.size = none := no_size
  have hk1 : ∀ b ob, s1.heap.get? b = some ob → h₁.get? b = some ob := fun b ob e => hsb.extBut b ob (fun q => by subst q; rw [no_size] at e; cases e) (Heap.get?_push_of_some _ e)
  have S2 := S1.grow (tk := s1.toks + ([] : List (Str × Value)).length) hk1
  obtain ⟨oC, hoC, nC⟩ := Heap.Ns.nsO hns
  generalize hCe : s1.heap.objs.size = C at *
  have fC : Fresh G Z C := a.fresh S1 hC0
  have S3 := S1.own S2 hC0 hoC (a.frl S1)
  have S4 : St G Z vs ((e, enumO it ((0 : Nat) : Int) old) :: (it, oi) :: (C, oC) :: (acc, Lo [] 0) :: mt) { s1 with heap := h₁, toks := s1.toks + ([] : List (Str × Value)).length } := S3.perm (by
    exact (List.perm_append_comm (l₁ := [(C, oC), (acc, Lo [] 0)]) (l₂ := [(e, enumO it ((0 : Nat) : Int) old), (it, oi)])).append_right mt |>.symm)
  clear S1 S2 S3 S hk1 hns hsb hoC
  have loop : ∀ s4, St G Z vs ((e, enumO it ((0 : Nat) : Int) old) :: (it, oi) :: (C, oC) :: (acc, Lo [] 0) :: mt) s4 → codeAny (model P w) A (.compLoop (.ListComp elt [⟨.Tuple [.Name x xp, .Name y yp] k tp, iter, [], 0⟩] scope pos) 0 (.ref e) (.ref acc) (compEnvC scope [] C env)) (RR (.ref acc) C) s4 := fun s4 S4 => by
    refine codeAny_comp_go (EInv cs B l Z G e it C acc vs mt) (fun k s hI => ?_) cs.length ⟨0, Z, old, oi, [], 0, _, oC, rfl, Nat.zero_le _, rfl, ⟨[], by simp, .nil⟩, fun _ _ q => q, nC, ho, S4⟩
    obtain ⟨i, Z', old, oi, ys, n, m, oC, rfl, hi, hy', hg, hz', nC, ho, S⟩ := hI
    have he := S.has .here
    have hit := S.has (.there .here)
    have ne : e ≠ it := by
      have nd := S.nd
      rw [List.map_cons, List.map_cons, List.nodup_cons] at nd
      exact fun q => nd.1 (q ▸ .head _)
    have hl' : s.heap.IsList l xs.toArray := S.isListZ (hz' _ _ hl)
    rcases Nat.lt_or_ge i cs.length with lt | ge
    · have hxi : xs.toArray[i]? = some xs[i] := by simp [show i < xs.length by exact lin2 (Nat.le_of_eq hlen.symm) lt (by wtm_at "a")]
      obtain ⟨nv, hnv, t2, hv⟩ := hxs.get (show xs[i]? = some xs[i] by simp [show i < xs.length by exact lin2 (Nat.le_of_eq hlen.symm) lt (by wtm_at "a")])
      rw [hv] at hxi
      refine wpAny_pyNext_enum_item he ⟨oi, hit, ho.1, ho.2⟩ hl' hxi ne fun h' hout hit' htup hsz hk => ?_
      obtain ⟨oi', hoi', hc', hd'⟩ := hit'
      have S1 := S.turn2 (tk := s.toks + 1) hout hoi' hk
      have S2 := St.own2 S S1 no_size (show h'.get? s.heap.objs.size = some (To [.int (i : Int) s.toks, .int (nv : Int) t2] 0) from htup) (a.frl S) rfl
      have S3 := S2.freeze (a.fresh S no_size).2
      generalize s.heap.objs.size = T at S3 hout htup
      generalize hZ : (fun b x => Z' b x ∨ b = T ∧ x = To [.int (i : Int) s.toks, .int (nv : Int) t2] 0) = Z2 at S3
      have hz2 : ∀ a o, Z' a o → Z2 a o := fun a o q => hZ ▸ .inl q
      have hT : Z2 T (To [.int (i : Int) s.toks, .int (nv : Int) t2] 0) := hZ ▸ .inr ⟨rfl, rfl⟩
      dsimp only
      refine wpAny_letOwnedTupleGo_enum hout fun h2 he2 hs2 => ?_
      have S4 := S3.chg (tk := s.toks + 1) .here hs2 he2
      refine C_turn2 a (S4.perm mv2) hT nC hkind hx hy hxy fun m' oC' s6 n6 hmx hmy S6 => ?_
      refine hE i nv _ _ C oC' m' Z2 _ s6 _ _ hnv n6 hmx hmy S6 fun g t s7 hg7 S7 => ?_
      obtain ⟨gs, hb, hgs⟩ := hg
      have es : ((i : Int) + 1) = ((i + 1 : Nat) : Int) := rfl
      refine R_append (S7.perm mv2.symm) (.there (.there (.there .here))) (by rw [sizeLine_eq]; exact lin3 hz (Nat.le_of_eq hy') lt (by wtm_at "a")) fun s8 S8 => ?_
      rw [es] at S8
      refine ⟨cs.length - (i + 1), by exact lin2 (Nat.le_of_eq (Nat.sub_add_cancel (show i + 1 ≤ cs.length from lin1 lt (by wtm_at "a")))) (Nat.le_of_eq (Nat.sub_add_cancel (show i ≤ cs.length from lin1 lt (by wtm_at "a"))).symm) (by wtm_at "a"), i + 1, Z2, .int (nv : Int) t2, oi', ys ++ [Value.int ((g : Nat) : Int) t], n + 1, m', oC', rfl, lt, by rw [List.length_append, hy']; rfl, ⟨gs ++ [g], fun q hq => ?_, hgs.snoc ⟨t, rfl⟩⟩, fun _ _ q => hz2 _ _ (hz' _ _ q), n6, ⟨hc', hd'⟩, S8⟩
      rcases List.mem_append.mp hq with hq | hq
      · exact hb q hq
      · rw [List.mem_singleton.mp hq]; exact hg7
    · obtain rfl : i = cs.length := by exact Nat.le_antisymm (lin1 hi (by wtm_at "a")) (lin1 ge (by wtm_at "a"))
      refine wpAny_pyNext_enum_end a.hnd he ⟨oi, hit, ho.1, ho.2⟩ hl' (by simp [hlen]) fun h' hx => ?_
      have S1 := (S.perm (List.Perm.swap ..)).drop (tk := s.toks) hx hii
      exact hR acc C Z' ys n m oC _ hz' hg hy' nC fr1.2 fC.2 (S1.sub (List.sublist_cons_self _ _))
  exact codeAny_compStart_list (loop _ S4) (wpAny_pyIter_enum (S4.has .here) (loop _ S4))
end
section
variable {w : World}
noncomputable abbrev Zall (s : Shared) : Zt := fun a o => s.heap.get? a = some o
theorem entered0 {s : Shared} {f : Addr} {fd : FuncData} {binds : List (Str × Value)} {nm gn : List Str} (KX : (KK w).In s.heap) (T : ∃ mean mg mb, Top qv (looseW qv loose) mean mg mb s.heap) (sc : scopeOk fd binds nm gn = true) {vs₁ : List (Option Value)} (hvs : nm.map (fun x => binds.reverse.lookup x) = vs₁)
    {h₁ : Heap} (hns : h₁.Ns s.heap.objs.size (fun x => binds.reverse.lookup x)) (hk : ∀ b o, s.heap.get? b = some o → h₁.get? b = some o) :
    Act w (callerA.deeper (callEnv fd s.heap.objs.size f)) (callEnv fd s.heap.objs.size f) (mkG s.heap s [] [] (Zall s) nm gn) [] ∧ St (mkG s.heap s [] [] (Zall s) nm gn) (Zall s) vs₁ [] { s with heap := h₁, toks := s.toks + binds.length } := by
  simp only [scopeOk, Bool.and_eq_true, Bool.not_eq_true', beq_iff_eq, List.all_eq_true, decide_eq_true_eq, bne_iff_ne, List.isEmpty_iff] at sc
  obtain ⟨⟨⟨⟨⟨⟨⟨⟨⟨⟨⟨⟨⟨k1, k2⟩, k3⟩, k4⟩, k5⟩, k6⟩, k7⟩, k8⟩, k9⟩, k10⟩, k11⟩, k12⟩, k13⟩, k14⟩ := sc
  generalize hA' : callerA.deeper (callEnv fd s.heap.objs.size f) = A'
  generalize he' : callEnv fd s.heap.objs.size f = env'
  have szn : s.heap.get? s.heap.objs.size = none := no_size
  have act : Act w A' env' (mkG s.heap s [] [] (Zall s) nm gn) [] := by
    refine ⟨?_, ?_, ?_, ?_, ?_, ?_, ?_, k8, ⟨?_, ?_⟩, ?_, ?_, KX, T, fun b o e => e, rfl, trivial, fun b hb => nomatch hb⟩
    · rw [← he']; rfl
    · rw [← he']; rfl
    · rw [← he']; exact k11
    · rw [← he']; exact k12
    · rw [← he']; exact k1
    · rw [← he']; exact k6
    · rw [← he']; exact k7
    · intro q; rw [List.contains_iff_mem.mpr q] at k9; cases k9
    · intro q; rw [List.contains_iff_mem.mpr q] at k10; cases k10
    · rw [← hA', ← he']; rfl
    · rw [← hA']; rfl
  have st : St (mkG s.heap s [] [] (Zall s) nm gn) (Zall s) (nm.map (fun x => binds.reverse.lookup x)) [] { s with heap := h₁, toks := s.toks + binds.length } := by
    refine ⟨?_, by rw [List.length_map], szn, fun b o e _ _ => hk b o e, fun b o e h => (nomatch h), fun b o e => ?_, fun b o za => hk b o za, fun _ _ q => q, fun _ _ q => .inl q, fun o za => ?_, fun b o za q => (nomatch q), fun p hp => (nomatch hp), List.nodup_nil, rfl, rfl, rfl⟩
    · have e : (fun x => binds.reverse.lookup x) = look nm (nm.map (fun x => binds.reverse.lookup x)) := by
        funext x
        rw [look_vals]
        split
        · rfl
        · rename_i hx
          cases q : List.lookup x binds.reverse with
          | none => rfl
          | some v =>
            exfalso
            have : ∃ y ∈ binds.reverse, y.1 = x := by
              have := List.lookup_eq_some_iff.mp q
              obtain ⟨l₁, l₂, e, _⟩ := this
              exact ⟨(x, v), by rw [e]; simp, rfl⟩
            obtain ⟨y, hy, rfl⟩ := this
            have := k14 y (List.mem_reverse.mp hy)
            exact hx (List.contains_iff_mem.mp this)
      rw [← e]; exact hns
    · show (h₁.get? b).isSome = true
      rw [hk b o e]; rfl
    · have : s.heap.get? s.heap.objs.size = some o := za
      rw [szn] at this; cases this
  exact ⟨act, hvs ▸ st⟩
theorem callG0 {s : Shared} {f : Addr} {ob : Obj} {fd : FuncData} {body : List Stmt} {binds : List (Str × Value)} {pos : List Value} {nm gn : List Str} {R : Result → Shared → Prop}
    (KX : (KK w).In s.heap) (T : ∃ mean mg mb, Top qv (looseW qv loose) mean mg mb s.heap)
    (ho : s.heap.get? f = some ob) (hd : ob.data = .func fd) (hb : fd.body = .stmts body) (hcd : s.heap.CodeRec fd.code fd.qualname)
    (hbind : bindArgs fd ⟨pos, []⟩ = pure binds) (sc : scopeOk fd binds nm gn = true) {vs₁ : List (Option Value)} (hvs : nm.map (fun x => binds.reverse.lookup x) = vs₁)
    (h : ∀ A' env' G' s', A'.depth = callerA.depth + 1 → A'.units = callerA.units + 3 → G' = mkG s.heap s [] [] (Zall s) nm gn → G'.nm = nm → G'.gn = gn → Act w A' env' G' [] → St G' (Zall s) vs₁ [] s' →
      WG (model P w) A' (execs body env') (fun fl s'' => R (.ok (.ret (retOf fl))) s'') s') :
    CG (model P w) callerA (.call (.ref f) ⟨pos, []⟩) R s := by
  have sc' := sc
  simp only [scopeOk, Bool.and_eq_true, Bool.not_eq_true', beq_iff_eq, List.all_eq_true, decide_eq_true_eq, bne_iff_ne, List.isEmpty_iff] at sc'
  obtain ⟨⟨⟨⟨⟨⟨⟨⟨⟨⟨⟨⟨⟨k1, k2⟩, k3⟩, k4⟩, k5⟩, k6⟩, k7⟩, k8⟩, k9⟩, k10⟩, k11⟩, k12⟩, k13⟩, k14⟩ := sc'
  have nl : s.heap.NoLimit := by obtain ⟨mean, mg, mb, T⟩ := T; exact T.nolimit
  refine CG.call_def (fd := fd) (body := body) (binds := binds) (by wtm_at "d") ho hd nl hcd hb (BindsTo.of_eq hbind) k4 k5 (fun h₁ hns hk => ?_) k2 k3 k1
  obtain ⟨act, st⟩ := entered0 (f := f) KX T sc hvs hns hk
  exact h _ _ _ _ rfl rfl rfl rfl rfl act st
end
section
variable {w : World} {A : Around} {env : Env} {G : Gh} {outer : List Env} {Z : Zt} {vs : List (Option Value)} {mt : List (Addr × Obj)} {s : Shared} {E : Value → Shared → Prop}
theorem R_lcutL {value slice : PySem.Expr} {l : Addr} {xs : List Value} {vl vu : Value} {lo hi : Option Int} {Q : Value → Shared → Prop} (a : Act w A env G outer) (S : St G Z vs mt s) (hl : s.heap.IsList l xs.toArray) (pl : IsPart vl lo) (pu : IsPart vu hi) (hz : xs.length ≤ sizeLine)
    (hs : subscripted slice false (.ref l) (.ref s.heap.objs.size) = operate [.ref s.heap.objs.size, .ref l] (getItem (.ref l) (.ref s.heap.objs.size)))
    (h : ∀ l' s', St G Z vs ((l', Lo ((xs.drop (lo.elim 0 (clipAt xs.length))).take (hi.elim xs.length (clipAt xs.length) - lo.elim 0 (clipAt xs.length))) 0) :: mt) s' → Fresh G Z l' → Q (.ref l') s') (ht : ∀ r, letTemporaryGo value (.ref l) r = pure () := by intro _; with_unfolding_all rfl) :
    wpAny (model P w) A (subscriptTail value slice (.ref l) (.ref s.heap.objs.size)) Q E { s with heap := s.heap.push { cls := .type "slice", data := .fields #[vl, vu, .none] } } := by
  have S1 := S.push a { cls := .type "slice", data := .fields #[vl, vu, .none] } rfl s.toks
  have hl1 : ({ s with heap := s.heap.push { cls := .type "slice", data := .fields #[vl, vu, .none] } } : Shared).heap.IsList l xs.toArray := by
    obtain ⟨o, ho, hc, n, hd⟩ := hl
    exact ⟨o, Heap.get?_push_of_some _ ho, hc, n, hd⟩
  refine subscriptTail_ops (Heap.IsList.typeIs hl1) list_getitem_lookup (wpAny_getItem_list_slice hl1 (Heap.IsSliceOf.new ..) pl pu .none (by simp) ?_ (by rw [List.size_toArray]; exact hz)) hs ht
  have S2 := S1.push a (Lo ((xs.drop (lo.elim 0 (clipAt xs.length))).take (hi.elim xs.length (clipAt xs.length) - lo.elim 0 (clipAt xs.length))) 0) rfl s.toks
  have e : slicePick xs.toArray lo hi none = ((xs.drop (lo.elim 0 (clipAt xs.length))).take (hi.elim xs.length (clipAt xs.length) - lo.elim 0 (clipAt xs.length))).toArray := by rw [slicePick_plain, List.size_toArray]
  rw [e]
  exact h _ _ (S2.sub (List.Sublist.cons_cons _ (List.sublist_cons_self _ _))) (a.fresh S1 no_size)
theorem St.own3 {mt' : List (Addr × Obj)} {s' : Shared} {b : Addr} {o : Obj} (S : St G Z vs mt s) (S' : St G Z vs mt' s') (hn : s.heap.get? b = none) (ha : s'.heap.get? b = some o) (hfr : ∀ b ∈ G.fr, (s.heap.get? b).isSome = true) (hm : b ∉ mt'.map (·.1)) : St G Z vs ((b, o) :: mt') s' := by
  have hL : b ≠ G.L := by rintro rfl; obtain ⟨o, _, _, ho, _⟩ := S.ns; rw [hn] at ho; cases ho
  have hF : b ∉ G.fr := fun q => by have := hfr b q; rw [hn] at this; cases this
  have h0 : G.h₀.get? b = none := by
    cases q : G.h₀.get? b with
    | none => rfl
    | some o' => have := S.live b o' q; rw [hn] at this; cases this
  refine { S' with mu := fun p hp => ?_, nd := ?_ }
  · rcases List.mem_cons.mp hp with rfl | hp
    · exact ⟨ha, hL, hF, .inr h0, fun o za => by have := S.z _ _ za; rw [hn] at this; cases this⟩
    · exact S'.mu p hp
  · rw [List.map_cons, List.nodup_cons]
    exact ⟨hm, S'.nd⟩
end
noncomputable def tLt (B : Nat) : Ty := ⟨fun _ v => ∃ n : Nat, n < B ∧ ∃ t, v = .int (n : Int) t, fun _ h => h⟩
noncomputable def tE (B k : Nat) : Ty := ⟨fun Z v => ∃ gs : List Nat, gs.length ≤ k ∧ (∀ g ∈ gs, g < B) ∧ (tLs (gs.map tN)).r Z v, fun k ⟨gs, a, b, r⟩ => ⟨gs, a, b, Ty.m _ k r⟩⟩
section
variable {w : World} {c : Cx w} {L : Lc} {ob ob1 ob2 ob' : List Ob} {t t' t1 t2 t3 : Ty} {pos p' : Pos} {ns : List Str} {ts : List Ty} {rest : List Stmt}
theorem sum_le {B : Nat} : ∀ {gs : List Nat}, (∀ g ∈ gs, g < B) → gs.sum ≤ gs.length * B
  | [], _ => Nat.zero_le _
  | g :: gs, h => by
    rw [List.sum_cons, List.length_cons, Nat.succ_mul]
    have := sum_le (gs := gs) fun x hx => h x (.tail _ hx)
    have := h g (.head _)
    omega
theorem Op.sumE {B k M : Nat} (hM : k * B < M) : Op c [tE B k] (fun us => PySem.call (.builtin "sum") us) ob (tLt M) ob := by
  rintro Z vs mt s us Q E S O (_ | ⟨⟨gs, hl, hb, r⟩, (_ | _)⟩) q
  refine Op.sum (c := c) (ob := ob) (ns := gs) Z vs mt s _ Q E S O (.cons r .nil) fun v Z' mt' s' z S' O' ⟨t, hv⟩ => q v Z' mt' s' z S' O' ⟨gs.sum, ?_, t, hv⟩
  exact Nat.lt_of_le_of_lt (Nat.le_trans (sum_le hb) (Nat.mul_le_mul_right _ hl)) hM
theorem Ev.enum {c : Cb w} {x y : Str} {xp yp tp xp' : Pos} {k : Nat} {e elt : PySem.Expr} {scope : Scope} {cs : List Nat} {B : Nat} {gn : List Str} (hgn : c.G.gn = gn) (hc : gn.contains "enumerate" = true)
    (he : starEach [e] c.env = (false, eval e c.env) :: starEach [] c.env) (h : Ev c.g L ob e (tLs (cs.map tN)) ob) (hz : cs.length ≤ 1000) (hclos : closureFor scope c.env = pure [])
    (hkind : scope.kind = .function) (hnames : ∀ x ∈ scope.names, x.2 = .local → scope.names.lookup x.1 = some .local) (hcell : ∀ y ∈ scope.names, y.2 ≠ .cell) (hx : scope.names.lookup x = some .local) (hy : scope.names.lookup y = some .local) (hxy : x ≠ y)
    (hs : ∀ x, foldedSetIterable (.Call (.Name "enumerate" xp') [e] [] p') c.env x = pure x)
    (hE : ∀ (i n : Nat) (t1 t2 : Tok) (C : Addr) (oC : Obj) (m : Str → Option Value) (Z : Zt) (vs : List (Option Value)) (mt : List (Addr × Obj)) (s : Shared) (Q E : Value → Shared → Prop), cs[i]? = some n → NsO m oC → m x = some (.int (i : Int) t1) → m y = some (.int (n : Int) t2) → St c.G Z vs ((C, oC) :: mt) s →
      (∀ g t s', g < B → St c.G Z vs ((C, oC) :: mt) s' → Q (.int ((g : Nat) : Int) t) s') → wpAny (model P w) c.A (eval elt (compEnvC scope [] C c.env)) Q E s) :
    Ev c.g L ob (.ListComp elt [⟨.Tuple [.Name x xp, .Name y yp] k tp, .Call (.Name "enumerate" xp') [e] [] p', [], 0⟩] scope pos) (tE B cs.length) ob := by
  intro Z vs mt s Q E p q
  rw [eval_ListComp]
  refine wpAny_comprehension_free rfl hs hclos hkind hnames ?_
  refine X_Name (R_blt (v := .type "enumerate") c.act p.S hgn hc (by wtm_at "kis") (by boot_by_name) (by decide) ?_)
  refine V_ctype he rfl (EvL.cons he h .nil p' Z vs mt s _ _ p ?_)
  rintro us Z1 mt1 s1 z1 S1 O1 (_ | ⟨⟨l, xs, n, rfl, zl, T⟩, (_ | _)⟩)
  have hxs : All2 IntV xs cs := TL.all2.mp T
  refine call_enumerate_list (S1.isListZ zl) fun h' hen hit hsz hk => ?_
  obtain ⟨oi, hoi, hci, hdi⟩ := hit
  have Sg := S1.grow (tk := s1.toks) hk
  have Si := St.own S1 Sg no_size hoi (c.act.frl S1)
  have hn1 : s1.heap.get? (s1.heap.objs.size + 1) = none := by
    cases q : s1.heap.get? (s1.heap.objs.size + 1) with
    | none => rfl
    | some o => exact absurd (Nat.lt_of_succ_lt (Heap.lt_size q)) (Nat.lt_irrefl _)
  have Se := St.own3 S1 Si hn1 hen (c.act.frl S1) (by
    rw [List.map_cons, List.mem_cons]
    rintro (q | q)
    · exact absurd (show s1.heap.objs.size + 1 = s1.heap.objs.size from q) (by exact Nat.ne_of_gt ((by wtm_at "a")))
    · obtain ⟨p, hp, e⟩ := List.mem_map.mp q
      have := (S1.mu p hp).1
      rw [e, hn1] at this; cases this)
  have fe := (c.act.fresh S1 hn1).2
  have fi := (c.act.fresh S1 no_size).2
  generalize s1.heap.objs.size + 1 = ea at *
  refine wpAny_pyIter_enum hen ?_
  refine comp_enum (B := B) (RR := fun acc C r s' => compPost (model P w) c.A E none Q acc C r s') c.act hcell hkind hx hy hxy zl hxs hz fe fi ⟨hci, hdi⟩ Se (fun i n t1 t2 C oC m Z mt s Q E => hE i n t1 t2 C oC m Z vs mt s Q E) fun acc C Z' ys n m oC s' hz' hb hl nC fa fC S' => ?_
  refine ⟨m, nC.ns (S'.mu _ (.head _)).1, fun h' hs' => ?_⟩
  have S2 := (S'.drop (tk := s'.toks) hs'.extBut fC).freeze fa
  obtain ⟨gs, hgb, hgs⟩ := hb
  refine q _ _ _ _ (fun _ _ k => .inl (hz' _ _ (z1 _ _ k))) S2 (O1.up fun _ _ k => .inl (hz' _ _ k)) ⟨gs, by rw [← hgs.length, hl]; exact Nat.le_refl _, hgb, acc, ys, n, rfl, .inr ⟨rfl, rfl⟩, (TL.all2.mpr hgs)⟩
end
noncomputable def Well.adv (W : Well) (n : Nat) : Well := { W with at_ := W.at_ + n }
theorem Well.adv_next (W : Well) (n : Nat) : (W.adv n).next = W.adv (n + 1) := rfl
theorem Well.Ok.adv {W : Well} {n : Nat} (h : W.Ok n) (k : Nat) : (W.adv k).Ok (n + k) := ⟨h.len, h.lt, h.stir, Nat.add_le_add_right h.at_ k⟩
noncomputable def numsP (W : Well) (n : Nat) : List Nat := (List.range n).map fun j => (W.adv j).draw (128 ^ (1 + j))
theorem numsP_succ (W : Well) (n : Nat) : numsP W (n + 1) = numsP W n ++ [(W.adv n).draw (128 ^ (1 + n))] := by
  unfold numsP; rw [List.range_succ, List.map_append]; rfl
theorem numsP_lt {W : Well} {n : Nat} (hn : n ≤ 5) : ∀ x ∈ numsP W n, x < 2 ^ 35 := by
  intro x hx
  obtain ⟨j, hj, rfl⟩ := List.mem_map.mp hx
  rw [List.mem_range] at hj
  refine Nat.lt_of_lt_of_le (Well.draw_lt _ (Nat.pow_pos (by decide))) (Nat.le_trans (Nat.pow_le_pow_right (by decide) (show 1 + j ≤ 5 by exact lin2 hn hj (by wtm_at "a"))) (by decide))
noncomputable def encL (ns : List Nat) : List UInt8 := (ns.map encN).flatten
theorem encL_take {ns : List Nat} {i n : Nat} (h : ns[i]? = some n) : encL (ns.take (i + 1)) = encL (ns.take i) ++ encN n := by
  unfold encL
  rw [take_map encN h]; simp
theorem encL_len {ns : List Nat} (h : ∀ x ∈ ns, x < 2 ^ 35) : (encL ns).length ≤ 9 * ns.length := by
  have := flat_len (k := 9) (l := ns.map encN) fun x hx => by
    obtain ⟨n, hn, rfl⟩ := List.mem_map.mp hx
    exact encN_le n (Nat.lt_trans (h n hn) (by decide))
  rw [List.length_map] at this
  exact this
theorem rd_encL {ns : List Nat} {suf : List UInt8} {i n : Nat} (h : ns[i]? = some n) (hn : n < 2 ^ 35) : rdNum (encL ns ++ suf) (encL (ns.take i)).length = .ok (n, (encL (ns.take (i + 1))).length) := by
  have e : ns = ns.take i ++ n :: ns.drop (i + 1) := by
    have hi : i < ns.length := (List.getElem?_eq_some_iff.mp h).1
    have := List.drop_eq_getElem_cons hi
    rw [List.getElem?_eq_getElem hi] at h
    rw [Option.some.inj h] at this
    rw [← this, List.take_append_drop]
  have e2 : encL ns ++ suf = encL (ns.take i) ++ (encN n ++ (encL (ns.drop (i + 1)) ++ suf)) := by
    conv => lhs; rw [e]
    unfold encL
    simp
  rw [rdNum_at e2 rfl hn, encL_take h, List.length_append]
noncomputable def xyz : List UInt8 := [120, 121, 122]
section
variable {w : World} {A : Around} {env : Env} {G : Gh} {outer : List Env} {Z : Zt} {vs : List (Option Value)} {mt : List (Addr × Obj)} {s : Shared} {E Q : Value → Shared → Prop}
theorem Obs.is {Z : Zt} {mt : List (Addr × Obj)} : Obs Z (mt.map fun p => oIs p.1 p.2) mt := by
  induction mt with
  | nil => exact .nil
  | cons p mt ih => exact .cons (b := oIs p.1 p.2) rfl ih
theorem Obs.isE {Z : Zt} {mt mt' : List (Addr × Obj)} (h : Obs Z (mt.map fun p => oIs p.1 p.2) mt') : mt' = mt := by
  induction mt generalizing mt' with
  | nil => cases h; rfl
  | cons p mt ih =>
    cases h with | cons r h =>
    rw [ih h, show _ = p.2 from r]; rfl
theorem Rd.z {Z Z' : Zt} {dx : Addr} {b : List UInt8} {p : Nat} {o : Obj} (h : (oD dx (rdF b p)).r Z o) : (oD dx (rdF b p)).r Z' o := by
  obtain ⟨kvs, hD, _ | ⟨h1, _ | ⟨h2, _ | _⟩⟩⟩ := h
  exact ⟨_, hD, .cons h1 (.cons h2 .nil)⟩
theorem c_num {x dx : Addr} {od : Obj} {b : List UInt8} {p n q : Nat} (a : Act w A env G outer) (S : St G Z vs ((dx, od) :: mt) s) (hr : Room A 3) (hx : Z x (instObj 323 dx)) (hO : (oD dx (rdF b p)).r Z od) (hz : b.length ≤ 16000000) (e : rdNum b p = .ok (n, q))
    (h : ∀ od' t s', (oD dx (rdF b q)).r Z od' → St G Z vs ((dx, od') :: mt) s' → Q (.int (n : Int) t) s') : wpAny (model P w) A (call (.ref 278) [.ref x]) Q E s := by
  refine (OpX.num (c := (⟨A, env, G, outer, a⟩ : Cb w).g) (ob := mt.map fun p => oIs p.1 p.2) hr hz).ok e Z vs _ s [.ref x] Q E S (.cons (b := oD dx (rdF b p)) hO Obs.is) (.cons ⟨x, rfl, hx⟩ .nil) fun v Z' mt' s' z S' O' r => ?_
  obtain ⟨t, r⟩ := r
  subst r
  cases O' with | cons hO' O' =>
  cases O'.isE
  exact h _ _ _ (Rd.z hO') (S.weak S' z)
theorem c_numE {x dx : Addr} {od : Obj} {b : List UInt8} {p : Nat} {word : Str} (a : Act w A env G outer) (S : St G Z vs ((dx, od) :: mt) s) (hr : Room A 3) (hx : Z x (instObj 323 dx)) (hO : (oD dx (rdF b p)).r Z od) (hz : b.length ≤ 16000000) (e : rdNum b p = .error word)
    (h : ∀ e s', Thr G vs word (FlAt .none) e s' → E e s') : wpAny (model P w) A (call (.ref 278) [.ref x]) Q E s := by
  exact (OpX.num (c := (⟨A, env, G, outer, a⟩ : Cb w).g) (ob := mt.map fun p => oIs p.1 p.2) hr hz) Z vs _ s [.ref x] Q E S (.cons (b := oD dx (rdF b p)) hO Obs.is) (.cons ⟨x, rfl, hx⟩ .nil) (fun _ k => by cases e.symm.trans k) fun wd k x s' T => by cases e.symm.trans k; exact h _ _ T
theorem c_part {x dx : Addr} {od : Obj} {b r : List UInt8} {p q many : Nat} {tm : Tok} (a : Act w A env G outer) (S : St G Z vs ((dx, od) :: mt) s) (hr : Room A 3) (hx : Z x (instObj 323 dx)) (hO : (oD dx (rdF b p)).r Z od) (hz : b.length ≤ 16000000) (e : rdPart b p many = .ok (r, q))
    (h : ∀ od' t s', (oD dx (rdF b q)).r Z od' → St G Z vs ((dx, od') :: mt) s' → Q (.bytes r.toArray t) s') : wpAny (model P w) A (call (.ref 285) [.ref x, .int (many : Int) tm]) Q E s := by
  refine (OpX.part (c := (⟨A, env, G, outer, a⟩ : Cb w).g) (ob := mt.map fun p => oIs p.1 p.2) hr hz).ok e Z vs _ s [.ref x, .int (many : Int) tm] Q E S (.cons (b := oD dx (rdF b p)) hO Obs.is) (.cons ⟨x, rfl, hx⟩ (.cons ⟨tm, rfl⟩ .nil)) fun v Z' mt' s' z S' O' r => ?_
  obtain ⟨t, r⟩ := r
  subst r
  cases O' with | cons hO' O' =>
  cases O'.isE
  exact h _ _ _ (Rd.z hO') (S.weak S' z)
theorem fn_numbers {d : Addr} {o : Obj} {W : Well} {n : Nat} (a : Act w A env G outer) (S : St G Z vs ((d, o) :: mt) s) (hr : Room A 6) (hW : WellO w Z W o) (hk : W.Ok n) (hn : n + 5 ≤ 1000)
    (h : ∀ s', St G Z vs mt s' → Q (.bool true) s') : wpAny (model P w) A (call (.ref 433) [.ref d]) Q E s := by
  refine' call_cells (f := 433) (foot := [(d, o)]) (rest := mt) (nm := ["numbers", "told", "e"]) (gn := ["range", "TrieReader", "BadTable"]) (binds := [("well", .ref d)]) (vs₁ := [none, none, none]) (csOf := fun n => [("reader", n + 1), ("well", n)]) a S ?hd ?ho ?k1 ?k2 ?k3 ?k4 ?k5 ?k6 ?k7 ?k8 ?k9 ?h
  wtm_at "call"
  case hd => exact hr.dep
  case k7 => intro n; kernel_rfl
  case k8 => intro n p hp; rcases List.mem_cons.mp hp with rfl | hp; rfl; rw [List.mem_singleton] at hp; subst hp; rfl
  case k9 => intro x hx; rw [List.mem_singleton] at hx; subst hx; exact .inr ⟨by kernel_rfl, fun n => rfl⟩
  case h =>
    intro A' env' G' s' cs dA uA hG hnm hgn a' hcl hcs hki S' hdat
    have hr1 : Room A' 1 := hr.sub dA uA (by decide)
    have hr2 : Room A' 2 := hr.sub dA uA (by decide)
    have hr3 : Room A' 3 := hr.sub dA uA (by decide)
    generalize s.heap.objs.size + 1 = c at hcs
    subst hcs
    have hro := hdat ("reader", c + 1) (.head _)
    have hwo := hdat ("well", c) (.tail _ (.head _))
    replace hro : ((s'.heap.get? (c + 1)).getD default).data = .cell none := hro
    replace hwo : ((s'.heap.get? c).getD default).data = .cell (some (.ref d)) := hwo
    replace S' : St G' Z [none, none, none] [(c + 1, (s'.heap.get? (c + 1)).getD default), (c, (s'.heap.get? c).getD default), (d, o)] s' := S'
    generalize (s'.heap.get? (c + 1)).getD default = ro at hro S'
    generalize (s'.heap.get? c).getD default = wo at hwo S'
    clear hdat
    have kw : env'.kindOf "well" = some .cell := by rw [hki]; kernel_rfl
    have kr : env'.kindOf "reader" = some .cell := by rw [hki]; kernel_rfl
    have lw : env'.cells.lookup ("well" : Str) = some c := by rw [hcl]; rfl
    have lr : env'.cells.lookup ("reader" : Str) = some (c + 1) := by rw [hcl]; rfl
    have S0 : St G' Z [none, none, none] [(d, o), (c + 1, ro), (c, wo)] s' := S'.perm mv2
    wtm_at "x"
    wtm_at "v"
    refine V_comp (cl := [("well", c)]) a' (by intro _; rfl) (closureFor_eq (fun _ => c) ?_) rfl (by wtm_at "d") (by decide) ?_
    · intro x hx hf
      simp only [List.mem_cons, List.not_mem_nil, or_false] at hx
      rcases hx with rfl | rfl | rfl | rfl
      · cases hf
      · cases hf
      · cases hf
      · exact lw
    repeat wtm_at "v"
    refine R_range1 a' (by assumption) fun r t1 t2 s1 S1 => ?_
    refine iter_range a' S1 (.head _) (by decide) (by decide) (by decide) (by decide) fun it s2 oi hoi hf S2 => ?_
    subst hoi
    have hk5 := hk.len
    let J : Nat → Zt → List (Option Value) → List (Addr × Obj) → List Value → Prop := fun i Z' vs' mt' ys => Z' = Z ∧ vs' = [none, none, none] ∧ All2 IntV ys (numsP W i) ∧ ∃ o', mt' = [(d, o'), (c + 1, ro), (c, wo)] ∧ WellO w Z (W.adv i) o'
    refine CL.mk it _ (((5 : Int) - 0).toNat) _ _ Z _ _ J rfl (by rw [sizeLine_eq]; exact nb rfl) (steps_range a'.hnd hf) rfl (S2.sub (.cons_cons _ (.cons _ (.refl _)))) (⟨rfl, rfl, .nil, o, rfl, hW⟩) ?_ ?_
    · rintro C acc i v Z5 vs5 mt5 ys k m oC o5 s5 E5 hi ⟨tv, hv⟩ _ ⟨rfl, rfl, hys, o', rfl, hW'⟩ hC S5
      subst hv
      refine C_turn1 S5 hC rfl (by kernel_rfl) fun m' oC' s6 hC' hm' S6 => ?_
      wtm_at "v"
      wtm_at "v"
      wtm_at "v"
      wtm_at "v"
      refine C_free a' S6 rfl (by kernel_rfl) kw rfl (by wtm_at "has") hwo rfl ?_
      repeat wtm_at "v"
      rw [show (1 + ((0 : Int) + (i : Int))) = ((1 + i : Nat) : Int) by rw [Int.zero_add]; rfl]
      refine R_powN (a := 128) (n := 1 + i) (by assumption) (by omega) (by decide) fun t8 s8 S8 => ?_
      repeat wtm_at "v"
      refine (KDef.mk S8 ?_)
      refine fn_draw (128 ^ (1 + i)) a' (S8.perm mv3) hr1 hW' (hk.adv i) (by omega) (Nat.pow_pos (by decide)) fun o9 t9 s9 hW9 S9 => ?_
      refine (CTurn.mk hC' (S9.perm mv3.symm) (fun _ _ q => q) ⟨rfl, rfl, ?_, o9, rfl, hW9⟩)
      rw [numsP_succ]
      exact hys.snoc ⟨_, rfl⟩
    · rintro acc Z5 vs5 mt5 ys k _ ⟨rfl, rfl, hys, o', rfl, hW'⟩ hacc s5 S5
      have hyl := hys.length
      rw [show ((5 : Int) - 0).toNat = 5 from rfl] at hys hyl
      have hyl5 : ys.length = 5 := by rw [hyl]; simp [numsP]
      repeat wtm_at "v"
      rename_i t1 s6 _ t2 s7 _ t3 s8 _ l9 s9 S9 hf9
      refine R_addList a' S9 (S9.isList (.there .here)) (S9.isList .here) (by rw [sizeLine_eq, hyl5]; exact nb rfl) fun l s10 S10 hfl => ?_
      wtm_at "set"
      rename_i s11 S11
      have S12 := S11.freeze hfl.2
      have hns : All2 IntV (ys ++ [.int 127 t1, .int 128 t2, .int 0 t3]) (numsP W 5 ++ [127, 128, 0]) := hys.append (.cons ⟨_, rfl⟩ (.cons ⟨_, rfl⟩ (.cons ⟨_, rfl⟩ .nil)))
      generalize ys ++ [.int 127 t1, .int 128 t2, .int 0 t3] = xs at hns S12
      have hlt : ∀ x ∈ numsP W 5 ++ [127, 128, 0], x < 2 ^ 35 := by
        intro x hx
        rcases List.mem_append.mp hx with hx | hx
        · exact numsP_lt (Nat.le_refl _) x hx
        · simp only [List.mem_cons, List.not_mem_nil, or_false] at hx
          rcases hx with rfl | rfl | rfl <;> decide
      have hnl : (numsP W 5 ++ [127, 128, 0]).length = 8 := by simp [numsP]
      generalize numsP W 5 ++ [127, 128, 0] = ns at hns hlt hnl
      have hxl := hns.length
      have hel : (encL ns).length ≤ 72 := by have := encL_len hlt; rw [hnl] at this; exact this
      clear S5 S9 S10 S11 hys hyl hyl5
      obtain ⟨Z6, hz6, hl6, S13⟩ : ∃ Z6 : Zt, (∀ a o, Z5 a o → Z6 a o) ∧ Z6 l (Lo xs 0) ∧ St G' Z6 [some (.ref l), none, none] [(d, o'), (c + 1, ro), (c, wo)] s11 := ⟨_, fun _ _ q => .inl q, .inr ⟨rfl, rfl⟩, S12.sub (.cons _ (.cons _ (.refl _)))⟩
      clear S12
      refine X_assignC rfl ?_
      repeat wtm_at "v"
      refine G_join ?_
      repeat wtm_at "v"
      refine iter_list a' (by assumption) hl6 fun it s14 oi hoi hf S14 => ?_
      subst hoi
      let J : Nat → Zt → List (Option Value) → List (Addr × Obj) → List Value → Prop := fun i Z' vs' mt' ys => Z' = Z6 ∧ vs' = [some (.ref l), none, none] ∧ mt' = [(d, o'), (c + 1, ro), (c, wo)] ∧ All2 BytesV ys ((ns.take i).map encN)
      refine CL.mk it _ _ _ _ Z6 _ _ J rfl (by rw [sizeLine_eq]; exact lin2 (Nat.le_of_eq hnl) (Nat.le_of_eq hxl) (by wtm_at "a")) (steps_list a'.hnd hl6 hf) (⟨rfl, rfl⟩) S14 (⟨rfl, rfl, rfl, .nil⟩) ?_ ?_
      · rintro C acc i v Z7 vs7 mt7 ys k m oC o7 s7 E7 hi hv _ ⟨rfl, rfl, rfl, hys⟩ hC S7
        obtain ⟨n1, hn1, tn, rfl⟩ := hns.get hv
        have hlt1 := hlt n1 (List.mem_of_getElem? hn1)
        refine C_turn1 S7 hC rfl (by kernel_rfl) fun m' oC' s8 hC' hm' S8 => ?_
        repeat wtm_at "v"
        refine (KDef.mk S8 ?_)
        refine fn_number n1 a' S8 hr1 rfl (by exact lin1 (b := 9223372036854775808) hlt1 (by wtm_at "p")) fun t9 s9 S9 => ?_
        refine (CTurn.mk hC' S9 (fun _ _ q => q) ⟨rfl, rfl, rfl, ?_⟩)
        rw [take_map encN hn1]
        exact hys.snoc ⟨_, rfl⟩
      rintro acc Z7 vs7 mt7 ys k _ ⟨rfl, rfl, rfl, hys⟩ hacc s7 S7
      rw [List.take_of_length_le (by exact lin1 (Nat.le_of_eq hxl.symm) (by wtm_at "a"))] at hys
      repeat wtm_at "v"
      refine R_join S7 (S7.has .here) hys (by rw [sizeLine_eq]; exact Nat.le_trans hel (by decide)) fun t8 s8 S8 => ?_
      repeat wtm_at "v"
      refine R_badd (b := encL ns) (c := xyz) (by assumption) (by rw [sizeLine_eq]; exact Nat.le_trans (Nat.add_le_add_right hel 3) (by decide)) fun t9 s9 S9 => ?_
      repeat wtm_at "v"
      refine (KDef.mk S9 ?_)
      refine new_reader (c := (⟨A', env', G', _, a'⟩ : Cb w).g) hr2 S9 fun x dx o3 Z8 s11 hz8 hfr hx8 hO3 S11 => ?_
      have S13 := S11.sub (mt' := [(dx, o3), (d, o'), (c + 1, ro), (c, wo)]) (.cons_cons _ (.cons _ (.refl _)))
      have hB : (encL ns ++ xyz).length ≤ 75 := by rw [List.length_append]; exact Nat.le_trans (Nat.add_le_add_right hel 3) (by decide)
      clear S7 S8 S9 S11 S14
      refine S_cell a' S13 kr lr (by wtm_at "has") hro (fun _ => .there (.there .here)) fun ro' s14 hro' S14 => ?_
      clear S13
      wtm_at "x"
      refine isTrue_or ?_
      wtm_at "v"
      refine V_comp (cl := [("reader", c + 1)]) a' (by intro _; rfl) (closureFor_eq (fun _ => c + 1) ?_) rfl (by wtm_at "d") (by decide) ?_
      · intro x hx hf
        simp only [List.mem_cons, List.not_mem_nil, or_false] at hx
        rcases hx with rfl | rfl | rfl
        · cases hf
        · cases hf
        · exact lr
      repeat wtm_at "v"
      have hl8 := hz8 _ _ hl6
      refine iter_list a' S14 hl8 fun it s15 oi hoi hf S15 => ?_
      subst hoi
      let J : Nat → Zt → List (Option Value) → List (Addr × Obj) → List Value → Prop := fun i Z' vs' mt' ys => Z' = Z8 ∧ vs' = [some (.ref l), none, none] ∧ ∃ od', mt' = [(dx, od'), (d, o'), (c + 1, ro'), (c, wo)] ∧ (oD dx (rdF (encL ns ++ xyz) (encL (ns.take i)).length)).r Z8 od' ∧ All2 IntV ys (ns.take i)
      refine CL.mk it _ _ _ _ Z8 _ _ J rfl (by rw [sizeLine_eq]; exact lin2 (Nat.le_of_eq hnl) (Nat.le_of_eq hxl) (by wtm_at "a")) (steps_list a'.hnd hl8 hf) (⟨rfl, rfl⟩) S15 (⟨rfl, rfl, o3, rfl, hO3, .nil⟩) ?_ ?_
      · rintro C acc i v Z9 vs9 mt9 ys k m oC o9 s16 E9 hi hv _ ⟨rfl, rfl, od', rfl, hO', hys⟩ hC S16
        obtain ⟨n1, hn1, tn, rfl⟩ := hns.get hv
        have hlt1 := hlt n1 (List.mem_of_getElem? hn1)
        have hrd := rd_encL (suf := xyz) hn1 hlt1
        refine C_turn1 S16 hC rfl (by kernel_rfl) fun m' oC' s17 hC' hm' S17 => ?_
        wtm_at "v"
        refine C_free a' S17 rfl (by kernel_rfl) kr rfl (by wtm_at "has") hro' rfl ?_
        refine A_meth (rdM_number w) a' S17 hx8 (S17.has (.there (.there (.there .here)))) hO'.choose_spec.1 (hO'.choose_spec.2.none rfl) ?_
        refine V_cdef0 a' S17 (by kernel_rfl) ?_
        refine c_num a' (S17.perm mv3) hr3 hx8 hO' (lin1 hB (by wtm_at "a")) hrd fun od2 t2 s18 hO2 S18 => ?_
        refine (CTurn.mk hC' (S18.perm mv3.symm) (fun _ _ q => q) ⟨rfl, rfl, od2, rfl, hO2, ?_⟩)
        rw [List.take_add_one, hn1]
        exact hys.snoc ⟨_, rfl⟩
      rintro acc Z9 vs9 mt9 ys k _ ⟨rfl, rfl, od', rfl, hO', hys⟩ hacc s16 S16
      rw [List.take_of_length_le (by exact lin1 (Nat.le_of_eq hxl.symm) (by wtm_at "a"))] at hys hO'
      repeat wtm_at "v"
      refine R_lne (R := IntV) (fun v u p q ⟨t1, e1⟩ ⟨t2, e2⟩ => by subst e1 e2; exact eqv_int p q t1 t2) (S16.isList .here) (S16.isListZ hl8) hys hns (by have := hr1.2; exact lin1 this (by wtm_at "a")) ?_
      rw [decide_eq_true rfl]
      repeat wtm_at "v"
      simp only [Bool.not_true, Bool.false_eq_true, if_false]
      have S17 := S16.sub (mt' := [(dx, od'), (d, o'), (c + 1, ro'), (c, wo)]) (.cons _ (.refl _))
      have hp3 : rdPart (encL ns ++ xyz) (encL ns).length 3 = .ok (xyz, (encL ns).length + 3) := by
        unfold rdPart
        rw [if_neg (by rw [List.length_append]; show ¬ (encL ns).length + 3 > (encL ns).length + 3; exact Nat.not_lt.mpr ((by wtm_at "a"))), List.drop_left]
        rfl
      refine isTrue_or ?_
      wtm_at "v"
      wtm_at "v"
      refine R_cell a' S17 kr lr (by wtm_at "has") hro' rfl ?_
      refine A_meth (rdM_part w) a' S17 hx8 (S17.has .here) hO'.choose_spec.1 (hO'.choose_spec.2.none rfl) ?_
      refine V_cdef a' S17 (by kernel_rfl) rfl rfl ?_
      repeat wtm_at "v"
      refine (KDef.mk ((by assumption)) ?_)
      refine c_part (many := 3) a' (by assumption) hr3 hx8 hO' (lin1 hB (by wtm_at "a")) hp3 fun od3 t3 s18 hO3 S18 => ?_
      repeat wtm_at "v"
      refine R_bne (b := xyz) (c := [120, 121, 122]) ?_
      repeat wtm_at "v"
      rw [show (xyz != [120, 121, 122]) = false from by decide, if_neg Bool.false_ne_true]
      have hp0 : rdPart (encL ns ++ xyz) ((encL ns).length + 3) 0 = .ok ([], (encL ns).length + 3) := by
        unfold rdPart
        rw [if_neg (by rw [List.length_append]; show ¬ (encL ns).length + 3 + 0 > (encL ns).length + 3; exact Nat.not_lt.mpr ((by wtm_at "a")))]
        rfl
      refine isTrue_or ?_
      wtm_at "v"
      wtm_at "v"
      refine R_cell a' (by assumption) kr lr (by wtm_at "has") hro' rfl ?_
      refine A_meth (rdM_part w) a' (by assumption) hx8 (St.has (by assumption) .here) hO3.choose_spec.1 (hO3.choose_spec.2.none rfl) ?_
      refine V_cdef a' (by assumption) (by kernel_rfl) rfl rfl ?_
      repeat wtm_at "v"
      refine (KDef.mk ((by assumption)) ?_)
      refine c_part (many := 0) a' (by assumption) hr3 hx8 hO3 (lin1 hB (by wtm_at "a")) hp0 fun od4 t4 s19 hO4 S19 => ?_
      repeat wtm_at "v"
      refine R_bne (b := []) (c := []) ?_
      repeat wtm_at "v"
      rw [show (([] : List UInt8) != []) = false from by decide, if_neg Bool.false_ne_true]
      refine isTrue_or_nil ?_
      rw [if_neg Bool.false_ne_true]
      wtm_at "x"
      wtm_at "x"
      wtm_at "x"
      repeat wtm_at "v"
      wtm_at "set"
      rename_i s20 S20
      have hend := rdNum_end (encL ns ++ xyz)
      rw [show (encL ns ++ xyz).length = (encL ns).length + 3 by rw [List.length_append]; rfl] at hend
      refine X_try a' hnm hgn rfl rfl ?_
      wtm_at "x"
      wtm_at "v"
      refine R_cell a' S20 kr lr (by wtm_at "has") hro' rfl ?_
      refine A_meth (rdM_number w) a' S20 hx8 (S20.has .here) hO4.choose_spec.1 (hO4.choose_spec.2.none rfl) ?_
      refine V_cdef0 a' S20 (by kernel_rfl) ?_
      refine c_numE a' S20 hr3 hx8 hO4 (lin1 hB (by wtm_at "a")) hend fun e s' T => ?_
      refine ⟨_, "a number breaks off", _, _, _, T.imp fun o tl f => f.any, fun x => (by wtm_at "put"), fun x => (by wtm_at "at"), fun x t => (by wtm_at "put"), fun x t v => .there (.there .here), fun Z' x t v s6 S6 => ?_⟩
      wtm_at "x"
      repeat wtm_at "v"
      refine eq_str ?_
      refine (Back.mk (mt' := []) ((by assumption)) (fun S9 => ?_))
      rw [beq_self_eq_true]
      exact h _ ((S.sub (.cons _ (.refl _))).weak S9 fun a o q => S6.zs a o (by rw [hG]; exact q))
end
noncomputable def tScript (xs : List Value) : Ty := ⟨fun Z v => ∃ l o n, v = .ref l ∧ Z l o ∧ o.cls = .type "list" ∧ o.data = .seq xs.toArray n, fun k ⟨l, o, n, e, z, h⟩ => ⟨l, o, n, e, k _ _ z, h⟩⟩
noncomputable def Ints (xs : List Value) : Prop := ∀ v ∈ xs, ∃ n t, v = .int n t
theorem Ints.of {xs : List Value} {ns : List Int} (h : IntsAre xs ns) : Ints xs := by
  induction h with
  | nil => intro v hv; cases hv
  | cons n t _ ih =>
    intro v hv
    rcases List.mem_cons.mp hv with rfl | hv
    · exact ⟨_, _, rfl⟩
    · exact ih v hv
section
variable {w : World} {c : Cx w} {L L' L'' : Lc} {ob ob1 ob2 ob' : List Ob} {t t' t1 t2 t3 : Ty} {pos p' : Pos} {ns : List Str} {ts : List Ty}
theorem Obs.front {Z : Zt} {ob ob' bs : List Ob} {mt mt' : List (Addr × Obj)} (h : Obs Z bs mt') (O : Obs Z ob mt) : Obs Z (bs ++ ob) (mt' ++ mt) := by
  induction h with
  | nil => exact O
  | cons r _ ih => exact .cons r ih
theorem Op.table {d : Addr} {W : Well} {n : Nat} (hr : Room c.A 6) (hk : W.Ok n) (hn : n ≤ 900) : Op c [tRef d] (fun us => PySem.call (.ref 383) us) (oWell w d W :: ob) (tEx Shape.Ok fun H => tTb w H.tb) (oWells w d (n + 20) :: ob) := by
  rintro Z vs mt s us Q E S O (_ | ⟨rfl, (_ | _)⟩) q
  cases O with | cons hW O =>
  exact ty_table c.act S hr hW hk hn fun v Z' mt' s' z S' O' r => q v Z' _ s' z S' (Obs.front (ob' := []) O' (O.up z)) r
theorem Op.faulty {d : Addr} {W : Well} {n way : Nat} {H : Shape} (hr : Room c.A 7) (hk : W.Ok n) (hn : n ≤ 900) (ok : H.Ok) (hw : way < 18) : Op c [tRef d, tTb w H.tb, tN way] (fun us => PySem.call (.ref 409) us) (oWell w d W :: ob) tFault (oWells w d (n + 5) :: ob) := by
  rintro Z vs mt s us Q E S O (_ | ⟨rfl, (_ | ⟨⟨dw, ow, rfl, hz, hs, hT⟩, (_ | ⟨⟨tk, rfl⟩, (_ | _)⟩)⟩)⟩) q
  cases O with | cons hW O =>
  exact fn_faulty c.act S hr hW hk hn ok hz hs hT hw fun v Z' o' W' s' z r hW' hk' S' => q _ Z' _ s' z S' (.cons (b := oWells w d (n + 5)) ⟨W', hk', hW'⟩ (O.up z)) r
theorem Op.numbers {d : Addr} {W : Well} {n : Nat} (hr : Room c.A 6) (hk : W.Ok n) (hn : n + 5 ≤ 1000) : Op c [tRef d] (fun us => PySem.call (.ref 433) us) (oWell w d W :: ob) (tBool true) ob := by
  rintro Z vs mt s us Q E S O (_ | ⟨rfl, (_ | _)⟩) q
  cases O with | cons hW O =>
  exact fn_numbers c.act S hr hW hk hn fun s' S' => q _ Z _ s' (fun _ _ k => k) S' O rfl
theorem OpG.isRead {c : Cb w} {d : Addr} {W : Well} {n : Nat} {H : Shape} (hr : Room c.A 11) (hk : W.Ok n) (hn : n ≤ 900) (ok : H.Ok) : OpG c [tRef d, tTb w H.tb] (fun us => PySem.call (.ref 428) us) (oWell w d W :: ob) (tBool true) (oWells w d (n + 10) :: ob) := by
  rintro Z vs mt s us Q S O (_ | ⟨rfl, (_ | ⟨⟨dw, ow, rfl, hz, hs, hT⟩, (_ | _)⟩)⟩) q
  cases O with | cons hW O =>
  exact ty_isRead c.act S hr hW hk hn ok hz hs hT fun v Z' mt' s' z S' O' r => q v Z' _ s' z S' (Obs.front (ob' := []) O' (O.up z)) r
end
section
variable {w : World} {c : Cb w} {L L1 L' : Lc} {ob ob0 ob1 ob' : List Ob} {pos : Pos} {ns nm : List Str} {ts : List Ty} {rest : List Stmt} {o : Out} {e : PySem.Expr}
theorem Tq.neS {c : Cx w} {l r : PySem.Expr} {x y : Str} (hm : behindInMarks .NotEq r = false) (hp : x = y) (h1 : Ev c L ob l (tS x) ob1) (h2 : Ev c L ob1 r (tS y) ob') : Tq c L ob (.Compare l [.NotEq] [r] pos) False ob' := by
  refine Tq.cmp hm h1 h2 ?_
  rintro Z vs mt s a b Q E S O ⟨ta, rfl⟩ ⟨tb, rfl⟩ q
  subst hp
  refine PySem.P.ne_str ?_
  rw [show (x.cps.toList != x.cps.toList) = false by simp]
  exact q
theorem Bs.tp2E {ι : Type} {pr : ι → Prop} {f g : ι → Ty} {x y : Str} {xp yp tp : Pos} {k : Nat} {i j : Nat} (hnm : c.G.nm = nm) (hi : Ix nm x i) (hj : Ix nm y j) (nx : ns.contains x = false) (ny : (x :: ns).contains y = false)
    (hs : swapsWithSole [.Tuple [.Name x xp, .Name y yp] k tp] e pos.line c.env = pure false) (hw : swappedStores [.Tuple [.Name x xp, .Name y yp] k tp] e c.env = pure none)
    (h1 : Ev c.g ⟨ns, ts⟩ ob e (tEx pr fun i => tTup [f i, g i]) ob1) (h2 : ∀ i, pr i → Bs c ⟨y :: x :: ns, g i :: f i :: ts⟩ ob1 rest o) : Bs c ⟨ns, ts⟩ ob (.Assign [.Tuple [.Name x xp, .Name y yp] k tp] e pos :: rest) o := by
  intro Z vs mt s K E p q
  have nd := c.act.nd
  refine X_tp2 c.act hnm hs hw (h1 Z vs mt s _ _ p ?_)
  rintro v Z1 mt1 s1 z1 S1 O1 ⟨m, hm, a, xs, n, rfl, za, T⟩
  obtain _ | ⟨r1, _ | ⟨r2, _ | _⟩⟩ := T
  rw [hnm] at nd
  have ln : vs.length = nm.length := hnm ▸ S1.len
  have hL : Lc.Ok ⟨ns, ts⟩ (look c.G.nm) Z1 vs := p.l.up z1
  have ln1 : ∀ v, (vs.set i (some v)).length = nm.length := fun v => by rw [List.length_set, ln]
  refine ⟨a, Z1, vs, mt1, _, _, n, _, _, rfl, S1, S1.z _ _ za, hi.put ln, hj.put (ln1 _), fun s2 S2 => h2 m hm Z1 _ mt1 s2 K E ⟨S2, ?_, O1⟩ (q.up z1)⟩
  show Lc.Ok _ (look c.G.nm) _ _
  rw [hnm] at hL ⊢
  exact (hL.put nd ln hi nx r1).put nd (ln1 _) hj ny r2
end
set_option maxHeartbeats 4000000 in
theorem law_holds : PySem.Challenge.rw_on0370_01.Holds := by
  refine hd ?_
  intro w s₀ s₁ mg mb G Y a o pm cd doc dV kV ho hd hcd hD hmg hg args vals as hpre hlay hrd hwl hlo
  have KX := kIn_of Y
  have T := G.T
  have d1 := hD.pos_none rfl
  have d2 := hD.kw_none rfl
  subst d1 d2
  clear hD hmg Y
  wrow_args hpre hlay hrd hwl hlo
  rename_i ns hs h0 h1 h2 h3 as1 as2 l xs as3 hL ra w1 r0 hI hr2 hlen u
  have hn : xs.length ≤ 63 := by rw [hI.length]; omega
  replace hI := Ints.of hI
  refine .call ?_
  refine' callG0 (f := a) (binds := [("script", .ref l)]) (nm := ["script", "cells", "well", "w", "turn", "octets", "word"]) (gn := ["sum", "enumerate", "_law_table", "_law_is_read", "range", "_law_faulty", "_law_draw", "_law_heard", "_law_numbers_right"]) (vs₁ := [some (.ref l), none, none, none, none, none, none]) KX ⟨_, _, _, T⟩ ho hd ?k1 ?k2 ?k3 ?k4 ?k5 ?h
  case k1 => exact rfl
  case k2 => exact hcd
  case k3 => kernel_rfl
  case k4 => kernel_rfl
  case k5 => kernel_rfl
  case h =>
    intro A' env' G' s' dA uA hG hnm hgn a' S'
    have hr : Room A' 12 := by unfold Room; rw [dA, uA]; decide +kernel
    have key : ∀ body (K : Flow → Shared → Prop), (∀ s'' : Shared, (∀ b o, s₁.heap.get? b = some o → s''.heap.get? b = some o) → s''.gens = s₁.gens → s''.os = s₁.os → K (.ret (.bool true)) s'') → (∀ (c : Cb w), Room c.A 12 → c.G.nm = (["script", "cells", "well", "w", "turn", "octets", "word"] : List Str) → c.G.gn = (["sum", "enumerate", "_law_table", "_law_is_read", "range", "_law_faulty", "_law_draw", "_law_heard", "_law_numbers_right"] : List Str) →
        Bw c ⟨["script"], [tScript xs]⟩ [] body (.ret (tBool true) [])) → WG (model P w) A' (execs body env') K s' := fun body K h B => by
      obtain ⟨o, ho, hc, n, hd⟩ := hL
      refine B ⟨A', env', G', _, a'⟩ hr hnm hgn (Zall s₁) _ [] s' _ ⟨S', ?_, .nil⟩ fun v Z' vs' mt' s'' z S2 O2 r => ?_
      · show Lc.Ok _ (look G'.nm) _ _; rw [hnm]; exact .cons (v := .ref l) (by kernel_rfl) ⟨l, o, n, rfl, ho, hc, hd⟩ .nil
      · cases r
        subst hG
        exact h s'' (fun b o e => S2.keep b o e (by intro q; cases q) (by intro q; cases q)) S2.gens S2.os
    refine key _ _ ?good ?_
    case good =>
      intro s' hk hgn hos
      refine ⟨.inl ⟨.bool true, .bool true, [], rfl, ?_, ?_, ?_, ?_⟩, .of_keep hk, hos, .of_eq (hgn.trans hg)⟩
      · intro cls; rfl
      · exact .bool _
      · kernel_rfl
      · intro q; exact ⟨List.nodup_nil, fun a h => nomatch h⟩
    clear key hG hr hnm hgn a' S' dA uA ho hd hcd
    intro c hr hnm hgn
    have hr1 : Room c.A 1 := hr.le (by decide)
    have hr6 : Room c.A 6 := hr.le (by decide)
    intro Z vs mt s K p q
    have a := c.act
    have nd := a.nd
    rw [hnm] at nd
    refine GX_any (X_comp (cl := []) a hnm (sw_comp a (a.kloc _ (by rw [hnm]; decide)) rfl (by wtm_at "d")) (by intro _; rfl) (closureFor_none (by decide)) rfl (by wtm_at "d") (by decide) ?_)
    refine V_sub (Ev.loc (t := tScript xs) 0 .here rfl Z vs mt s _ _ p ?_)
    rintro v Z1 mt1 s1 z1 S1 O1 ⟨l, o, n, rfl, zl, hc, hd⟩
    refine V_slice (V_nonePart (V_some (R_int S1 fun tk s2 S2 => ?_)))
    refine R_lcutL a S2 ⟨o, S2.z _ _ zl, hc, n, hd⟩ .none (.int _ _) (by rw [sizeLine_eq]; exact lin1 hn (by wtm_at "a")) rfl fun l' s3 S3 f => ?_
    have ek := lcut_upto xs 24
    rw [show ((24 : Nat) : Int) = 24 from rfl] at ek
    rw [ek] at S3
    have hI' : Ints (xs.take 24) := fun v hv => hI v (List.mem_of_mem_take hv)
    have hl24 : (xs.take 24).length ≤ 24 := by rw [List.length_take]; exact lin1 (show min 24 xs.length ≤ 24 from Nat.min_le_left _ _) (by wtm_at "a")
    generalize xs.take 24 = ys at S3 hI' hl24
    have S4 := S3.freeze f.2
    have hl' : (fun b x => Z1 b x ∨ b = l' ∧ x = Lo ys 0) l' (Lo ys 0) := .inr ⟨rfl, rfl⟩
    refine iter_list a S4 hl' fun it s5 oi hoi hf S5 => ?_
    subst hoi
    let J : Nat → Zt → List (Option Value) → List (Addr × Obj) → List Value → Prop := fun i Z' vs' mt' ws => vs' = vs ∧ mt' = mt1 ∧ ∃ gs : List Nat, gs.length = i ∧ (∀ g ∈ gs, g < 1000003) ∧ All2 IntV ws gs
    refine CL.mk it _ ys.length _ _ _ _ _ J rfl (by rw [sizeLine_eq]; exact lin1 hl24 (by wtm_at "a")) (steps_list a.hnd hl' hf) ⟨rfl, rfl⟩ S5 ⟨rfl, rfl, [], rfl, by simp, .nil⟩ ?_ ?_
    · rintro C acc i v Z6 vs6 mt6 ws k m oC o6 s6 E6 hi hv hz6 ⟨rfl, rfl, gs, hgl, hgb, hgs⟩ hC S6
      obtain ⟨x, tx, rfl⟩ := hI' v (List.mem_of_getElem? (show ys[i]? = some v from hv))
      refine C_turn1 S6 hC rfl (by kernel_rfl) fun m' oC' s7 hC' hm' S7 => ?_
      refine wpAny_BinOp (X_Name (C_blt (v := .type "int") a S7 rfl rfl (by wtm_at "kis") (by boot_by_name) (by decide) rfl ?_))
      refine V_ctype rfl rfl (V_items rfl (C_loc S7 .here hC' rfl (by kernel_rfl) hm' rfl (wpAny_items_nil (call_int_int ?_))))
      refine R_int S7 fun t8 s8 S8 => ?_
      refine R_mod S8 (by decide) fun t9 s9 S9 => ?_
      have e1 : (0 : Int) ≤ Int.fmod x 1000003 := Int.fmod_nonneg_of_pos x (by decide)
      have e2 : Int.fmod x 1000003 < 1000003 := Int.fmod_lt_of_pos x (by decide)
      obtain ⟨g, hg⟩ := Int.eq_ofNat_of_zero_le e1
      rw [hg] at e2 ⊢
      refine CTurn.mk hC' S9 hz6 ⟨rfl, rfl, gs ++ [g], by rw [List.length_append, hgl]; rfl, fun q hq => ?_, hgs.snoc ⟨t9, rfl⟩⟩
      rcases List.mem_append.mp hq with hq | hq
      · exact hgb q hq
      · rw [List.mem_singleton] at hq; subst hq; omega
    rintro acc Z6 vs6 mt6 ws k hz6 ⟨rfl, rfl, gs, hgl, hgb, hgs⟩ hacc
    have hl : vs6.length = (["script", "cells", "well", "w", "turn", "octets", "word"] : List Str).length := hnm ▸ S1.len
    refine ⟨_, Ix.put (by wtm_at "ix") hl, fun s6 S6 => X_nil (NxG.next ?_)⟩
    have S7 := S6.freeze hacc
    have hL := p.l.up z1
    have hL7 := (hL.up (fun _ _ k => hz6 _ _ (.inl k))).up (Z' := fun b x => Z6 b x ∨ b = acc ∧ x = Lo ws k) fun _ _ q => .inl q
    replace hL7 : Lc.Ok _ (look c.G.nm) _ _ := hL7
    rw [hnm] at hL7
    have hL8 := hL7.put (x := "cells") (v := .ref acc) (t := tLs (gs.map tN)) nd hl (by wtm_at "ix") (by wtm_at "d") ⟨acc, ws, k, rfl, .inr ⟨rfl, rfl⟩, TL.all2.mpr hgs⟩
    rw [← hnm] at hL8
    have hgl : gs.length ≤ 24 := by exact lin2 hl24 (Nat.le_of_eq hgl) (by wtm_at "a")
    refine (?_ : Bw c ⟨["cells", "script"], [tLs (gs.map tN), tScript xs]⟩ [] _ (.ret (tBool true) [])) _ _ _ _ K ⟨S7, hL8, O1.up fun _ _ q => .inl (hz6 _ _ (.inl q))⟩ (q.up fun _ _ q => .inl (hz6 _ _ (.inl (z1 _ _ q))))
    clear hL8 hL7 hL S7 S6 hacc hz6 hgs J hf S5 hl' S4 S3 S2 f zl hc hd O1 S1 z1 hl p q
    intro Z vs mt s K p q
    refine GX_any (X_assign a hnm rfl (R_dictS a p.S rfl rfl (by simp) (by decide) fun d s1 hfd hsys S1 => ?_))
    refine pairTrees_cons_walk ?_
    have Os : Obs Z [oIs d emptyDict] ((d, emptyDict) :: mt) := .cons (b := oIs d emptyDict) rfl p.o
    refine R_str S1 fun t2 s2 S2 => ?_
    refine Ev.loc (t := tLs (gs.map tN)) 0 .here rfl Z vs _ s2 _ _ ⟨S2, p.l, Os⟩ ?_
    rintro v Z3 mt3 s3 z3 S3 O3 ⟨lc, ws, nw, rfl, zc, hws⟩
    refine pairTrees_cons_walk (R_str S3 fun t4 s4 S4 => R_int S4 fun t5 s5 S5 => pairTrees_cons_walk (R_str S5 fun t6 s6 S6 => ?_))
    refine Ev.cblt (t := tLt (2 ^ 40)) (id := "sum") hgn (by wtm_at "d") (by wtm_at "kis") (by boot_by_name) (by decide) rfl rfl (.cons rfl (Ev.enum (B := 25 * 1000003) (cs := gs) hgn (by wtm_at "d") rfl (Ev.loc 0 .here rfl) (by exact lin1 hgl (by wtm_at "a")) (closureFor_none (by decide)) rfl (by wtm_at "d") (by decide) (by kernel_rfl) (by kernel_rfl) (by decide) (by intro _; rfl) ?_) .nil) (Op.sumE (by omega)) Z3 vs mt3 s6 _ _ ⟨S6, p.l.up z3, O3⟩ ?_
    · intro i n t1 t2 C oC m Z vs mt s Q E hi hC hx hy S hQ
      have hin := hgb n (List.mem_of_getElem? hi)
      have hii := (List.getElem?_eq_some_iff.mp hi).1
      refine wpAny_BinOp (wpAny_BinOp (C_loc S .here hC rfl (by kernel_rfl) hx rfl (R_int S fun t3 s3 S3 => R_add S3 fun t4 s4 S4 => ?_)))
      refine C_loc S4 .here hC rfl (by kernel_rfl) hy rfl (R_mulS S4 (by omega) (by omega) fun t5 s5 S5 => ?_)
      have hb : (i + 1) * n < 25 * 1000003 := Nat.lt_of_le_of_lt (Nat.mul_le_mul (show i + 1 ≤ 24 by exact lin2 hgl hii (by wtm_at "a")) (show n ≤ 1000003 by exact lin1 hin (by wtm_at "a"))) (by decide)
      rw [show (i : Int) + 1 = ((i + 1 : Nat) : Int) from rfl, ← Int.natCast_mul]
      exact hQ _ _ _ hb S5
    rintro v Z7 mt7 s7 z7 S7 O7 ⟨st, hst, t7, rfl⟩
    cases O7 with | cons ho O7 =>
    cases O7
    cases ho
    refine pairTrees_nil_walk ?_
    refine ⟨[("cells", .ref lc), ("at", .int 0 t5), ("stir", .int (st : Int) t7)], Z7, vs, [], ⟨rfl, rfl, rfl, rfl, rfl, rfl, trivial⟩, S7, fun oe s8 hoe S8 => ?_⟩
    rw [merged_nil_of_nodup _ (by show (["cells", "at", "stir"] : List Str).Nodup; decide +kernel)] at hoe
    have hl : vs.length = (["script", "cells", "well", "w", "turn", "octets", "word"] : List Str).length := hnm ▸ S1.len
    refine KSet.mk S8 (Ix.put (by wtm_at "ix") hl) fun s9 S9 => X_nil (NxG.next ?_)
    have hL7 := (p.l.up z3).up z7
    replace hL7 : Lc.Ok _ (look c.G.nm) _ _ := hL7
    rw [hnm] at hL7
    have hL8 := hL7.put (x := "well") (v := .ref d) (t := tRef d) nd hl (by wtm_at "ix") (by wtm_at "d") rfl
    rw [← hnm] at hL8
    have hk : Well.Ok ⟨gs, 0, st⟩ 0 := ⟨hgl, hgb, hst, Nat.le_refl _⟩
    have hW : WellO w Z7 ⟨gs, 0, st⟩ oe := ⟨lc, ws, nw, t5, t7, z7 _ _ zc, TL.all2.mp (hws.up z7), hoe⟩
    generalize (⟨gs, 0, st⟩ : Well) = W at hk hW
    refine (?_ : Bw c ⟨["well", "cells", "script"], [tRef d, tLs (gs.map tN), tScript xs]⟩ [oWell w d W] _ (.ret (tBool true) [])) _ _ _ _ K ⟨S9, hL8, .cons (b := oWell w d W) hW .nil⟩ (q.up fun _ _ q => z7 _ _ (z3 _ _ q))
    clear hL8 hL7 hW S9 S8 hoe S7 hws zc S6 S5 S4 S3 S2 Os S1 hfd z3 z7 hl p q
    refine Bw.seq (Bs.set (t1 := tEx Shape.Ok fun H => tTb w H.tb) hnm (by wtm_at "ix") (by wtm_at "d") rfl (Ev.cdef (f := 383) hgn (by wtm_at "d") (by wtm_at "kis") (by kernel_rfl) rfl rfl (.cons rfl (by wtm_at "lo") .nil) (Op.table hr6 hk (by wtm_at "a"))) Bs.nil) ?_
    refine Bw.opnL fun H ok => Bw.opn fun W1 hk1 => ?_
    refine Bw.skipG (TqG.not_ rfl (EvG.cdef (f := 428) hgn (by wtm_at "d") (by wtm_at "kis") (by kernel_rfl) rfl rfl (.cons rfl (by wtm_at "lo") (.cons rfl (Ev.loc (t := tTb w H.tb) _ (by wtm_at "ix") rfl) .nil)) (OpG.isRead (hr.le (by decide)) hk1 (by wtm_at "a") ok))) ?_
    refine Bw.any (Bs.forL (σ := Unit) (I := fun _ _ => True) (obs := fun i _ => [oWells w d (30 + 6 * i)]) (Lf := fun i => ⟨"turn" :: _, tN i :: _⟩) (n := 2) () (by intro _; rfl) (Itr.range hgn (by wtm_at "d") rfl Ev.nat (by decide)) trivial (fun i => Asn.name hnm (by wtm_at "ix") (by wtm_at "d")) (fun i x it ot hi hx => .inl ⟨(), trivial, ?_⟩) fun x hx => ?_)
    · refine Bs.opn fun W2 hk2 => ?_
      have hw : W2.draw 18 < 18 := Well.draw_lt _ (by decide)
      refine Bs.tp2E (pr := fun x : List UInt8 × Str => rdTable x.1 = .error x.2 ∧ x.1.length ≤ 16000000) (f := fun x => tB x.1) (g := fun x => tS x.2) hnm (by wtm_at "ix") (by wtm_at "ix") (by wtm_at "d") (by wtm_at "d") rfl rfl
        ((Ev.cdef (f := 409) hgn (by wtm_at "d") (by wtm_at "kis") (by kernel_rfl) rfl rfl (.cons rfl (by wtm_at "lo") (.cons rfl (Ev.loc (t := tTb w H.tb) _ (by wtm_at "ix") rfl) (.cons rfl (Ev.draw hgn (by wtm_at "d") hr1 rfl rfl (by wtm_at "lo") Ev.nat hk2 (by exact lin6 hi hi hi hi hi hi (by wtm_at "a")) (by decide)) .nil))) (Op.faulty (hr.le (by decide)) hk2.next (by exact lin6 hi hi hi hi hi hi (by wtm_at "a")) ok hw)).conv fun Z v ⟨b, word, e1, e2, r⟩ => ⟨(b, word), ⟨e1, e2⟩, r⟩) fun x ⟨e1, e2⟩ => ?_
      refine Bs.skip (Tq.neS rfl rfl (Ev.cdef (f := 423) hgn (by wtm_at "d") (by wtm_at "kis") (by kernel_rfl) rfl rfl (.cons rfl (by wtm_at "lo") .nil) (Op.heardE (hr.le (by decide)) e2 e1)) (by wtm_at "lo")) ?_
      exact Bs.drop 3
    refine Bs.opn fun W3 hk3 => ?_
    exact Bs.ret (Ev.cdef (f := 433) hgn (by wtm_at "d") (by wtm_at "kis") (by kernel_rfl) rfl rfl (.cons rfl (by wtm_at "lo") .nil) (Op.numbers hr6 hk3 (by wtm_at "a")))
end Mine
theorem PySem.Challenge.cw_on0370_01_holds : PySem.Challenge.rw_on0370_01.Holds :=
  Mine.law_holds
