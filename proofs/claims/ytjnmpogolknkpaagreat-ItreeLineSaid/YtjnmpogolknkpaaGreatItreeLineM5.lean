/- Texts of the law ItreeLine, one behind the other. -/
import Derived.Test.YtjnmpogolknkpaaGreatItreeLineM1
import Derived.RangeFuncRecord
import Derived.RangeFuncIn
import Derived.RangeFuncLeaves
import Derived.Test.YtjnmpogolknkpaaGreatItreeLineM2
import Derived.Test.YtjnmpogolknkpaaGreatItreeLineM4
import Derived.Test.YtjnmpogolknkpaaGreatItreeLineM3
import Derived.Test.YtjnmpogolknkpaaGreatProg
import Derived.WalkKit
import Derived.Lib.Hide
/- A range over a function, in a walk. No program stands in this text. -/
namespace Go.Proofs.YtjnmpogolknkpaaGreat
open Go.RowKit
set_option linter.unusedVariables false
set_option linter.unusedSimpArgs false

/-- A block that is no cells. -/
structure obj (b : Nat) (o : Obj) (h : Hm) : Prop where
  eq : h b = some o
section
variable {g : Glob} {L : List HP} {w : World}
theorem Hp.obj_heap {b : Nat} {o : Obj} (h : Hp g (obj b o :: L) w) : w.heap[b]? = some o := by
  obtain ⟨h1, h2, d, s1, s2, a, l⟩ := h.s
  exact s1 _ _ a.eq
theorem Hp.allocO (h : Hp g L w) (o : Obj) : Hp g (obj w.heap.size o :: L) (w.alloc o) := by
  refine ⟨h.g, fun k => if k = w.heap.size then some o else none, w.hm, fun k => ?_, fun k o' e => ?_, fun k o' e => ?_, ⟨by simp⟩, h.s⟩
  · by_cases hk : k = w.heap.size
    · right; subst hk; simp [World.hm]
    · left; simp [hk]
  · replace e : (if k = w.heap.size then some o else none) = some o' := e
    by_cases hk : k = w.heap.size
    · subst hk
      rw [if_pos rfl] at e
      show (w.heap.push _)[_]? = _
      simpa using e
    · rw [if_neg hk] at e; cases e
  · have hk : k < w.heap.size := by
      rcases Nat.lt_or_ge k w.heap.size with h' | h'
      · exact h'
      · simp [World.hm, Array.getElem?_eq_none h'] at e
    show (w.heap.push _)[k]? = _
    rw [Array.getElem?_push, if_neg (by omega)]
    exact e
theorem Hp.putO {b : Nat} {o : Obj} (h : Hp g (obj b o :: L) w) (o' : Obj) : Hp g (obj b o' :: L) (w.putObj b o') := by
  have hb := h.obj_heap
  have hlt : b < w.heap.size := (Array.getElem?_eq_some_iff.1 hb).1
  obtain ⟨h1, h2, d, s1, s2, a, l⟩ := h.s
  have a' : h1 b = some o := a.eq
  have hne : ∀ k, k ≠ b → (w.putObj b o').hm k = w.hm k := fun k hk => World.putObj_heap_other hk
  have heq : (w.putObj b o').hm b = some o' := World.putObj_heap_same hlt
  refine ⟨h.g, fun k => if k = b then some o' else none, h2, fun k => ?_, fun k o e => ?_, fun k o e => ?_, ⟨by simp⟩, l⟩
  · by_cases hk : k = b
    · right
      rcases d k with e | e
      · rw [hk, a'] at e; cases e
      · exact e
    · left; simp [hk]
  · replace e : (if k = b then some o' else none) = some o := e
    by_cases hk : k = b
    · subst hk
      rw [if_pos rfl] at e
      rw [heq]; exact e
    · rw [if_neg hk] at e; cases e
  · by_cases hk : k = b
    · rcases d k with e' | e'
      · rw [hk, a'] at e'; cases e'
      · rw [e'] at e; cases e
    · rw [hne k hk]; exact s2 k o e
theorem Hp.true_ (hw : Hp g L w) : Hp g ((fun _ => True) :: L) w := ⟨hw.g, fun _ => none, w.hm, fun _ => .inl rfl, fun _ _ e => (by cases e), hSub.refl _, trivial, hw.s⟩
end

/-! The end of a function that holds such a range. -/
def mk (ds : List Nat) : List Deferred := ds.map fun d => ⟨.collected d, #[]⟩
def mkH (ds : List Nat) : List HP := ds.map fun d => obj d (.deferred (some []))
theorem results_runs {P : Program} {fn : Func} {σ : Env} {L : List HP} {rs : List ResultVar} {vs : List Value} (hr : fn.results = rs.toArray) (h : Res P σ L rs vs) {a : Act} {w : World} (hs : SatE σ a) (hw : sat L w.hm) : (results fn a.tmps).run P w = .ok (retv vs) w := by
  unfold results
  rw [hr]
  simp only [List.mapM_toArray, Sem.run_bind, Sem.run_map]
  have e := h.run hs hw
  generalize hm : List.mapM (m := Sem) _ rs = m
  have e' : m.run P w = .ok vs w := by rw [← hm]; exact e
  rw [e']
  simp only [Result.andThen_ok, Sem.run_pure]
  cases vs with
  | nil => rfl
  | cons v l => cases l <;> simp [retv]
def retM (P : Program) (fn : Func) (g : Glob) (F : HP) (post : Value → List HP → Prop) : Exit → Act → World → Prop
  | .normal, a, w | .ret, a, w => ∃ (ds : List Nat) (M L2 : List HP) (σ : Env) (rs : List ResultVar) (vs : List Value), a.defers = mk ds ∧ SatE σ a ∧ fn.results = rs.toArray ∧ Res P σ M rs vs ∧ (∀ h, sat M h → sat (F :: L2) h) ∧ post (retv vs) L2 ∧ Hp g (mkH ds ++ M) w
  | _, _, _ => False
theorem retM_noPanic {P : Program} {fn : Func} {g : Glob} {F : HP} {post : Value → List HP → Prop} : noPanic (retM P fn g F post) := fun _ _ _ h => h
theorem leaves_mk {P : Program} {fn : Func} {g : Glob} {F : HP} {post : Value → List HP → Prop} {M L2 : List HP} {σ : Env} {rs : List ResultVar} {vs : List Value} {a : Act} (hs : SatE σ a) (hr : fn.results = rs.toArray) (h : Res P σ M rs vs) (hM : ∀ h, sat M h → sat (F :: L2) h) (hp : post (retv vs) L2) :
    ∀ (ds : List Nat) (w : World), Hp g (mkH ds ++ M) w → LeavesInM Fence.wide 0 P fn a.tmps (fun e w' => ∃ v L', e = .returned v ∧ post v L' ∧ Hp g (F :: L') w') (mk ds) .returning w
  | [], w, hw => ⟨retv vs, results_runs hr h hs hw.s, _, L2, rfl, hp, hw.mono hM⟩
  | d :: ds, w, hw => ⟨by simp, .inl ⟨d, w.putObj d (.deferred none), rfl, run_takeDeferred (Hp.obj_heap hw), leaves_mk hs hr h hM hp ds _ ((Hp.putO hw _).mono fun _ s => s.tail)⟩⟩
section
variable {P : Program} {fn : Func} {g : Glob} {n : Nat} {K : List Kt} {σ : Env} {L : List HP} {B : Exit → Act → World → Prop}
theorem Ctr_ofM {f : FuncId} {c : Code} {args : List Value} {post : Value → List HP → Prop} (hf : P.funcs[f]? = some fn) (hb : fn.body = some c) (hn : fn.ntmps = n) (hlen : Nat.ble args.length n = true)
    (h : ∀ g F, g.base = g → G P (retM P fn g F post) g n [.code c] (argsE args 0) (F :: L)) : Ctr P f args.toArray L post := fun g F w hw => by
  refine (callsIn_wide (n := 0)).1 (callsIn_of_wp_marks hf hb trivial ?_)
  have hsz : args.toArray.size ≤ fn.ntmps := by rw [hn]; exact Nat.le_of_ble_eq_true hlen
  have := h g.base F rfl { tmps := args.toArray ++ Array.replicate (fn.ntmps - args.toArray.size) undef, defers := [] } w ⟨by simp at hsz ⊢; omega, rfl, fun t v e => ?_⟩ hw.base
  · refine Code.wpIn_mono (fun e a w h => ?_) this
    cases e with
    | normal =>
      obtain ⟨ds, M, L2, τ, rs, vs, h1, h2, h3, h4, h5, h6, h7⟩ := h
      show LeavesInM _ _ _ _ _ _ a.defers _ _
      rw [h1]
      exact leaves_mk h2 h3 h4 h5 h6 ds w h7.of_base
    | ret =>
      obtain ⟨ds, M, L2, τ, rs, vs, h1, h2, h3, h4, h5, h6, h7⟩ := h
      show LeavesInM _ _ _ _ _ _ a.defers _ _
      rw [h1]
      exact leaves_mk h2 h3 h4 h5 h6 ds w h7.of_base
    | _ => exact h.elim
  · obtain ⟨j, rfl, hj⟩ := argsE_get args 0 t v e
    have hlt : j < args.length := (List.getElem?_eq_some_iff.1 hj).1
    rw [Nat.zero_add, Array.getElem?_append_left (by simpa using hlt)]
    simpa using hj
theorem G_retM {g0 : Glob} {rs : List ResultVar} {vs : List Value} {L' M : List HP} {F : HP} {post : Value → List HP → Prop} (ds : List Nat) (hg : g.base = g0.base) (hd : g.dfs = mk ds) (hr : fn.results = rs.toArray) (h : Res P σ M rs vs) (hL : ∀ h, sat L h → sat (mkH ds ++ M) h) (hM : ∀ h, sat M h → sat (F :: L') h) (hp : post (retv vs) L') :
    G P (retM P fn g0 F post) g n (.code .ret :: K) σ L := fun a w hs hw =>
  wpIn_ret (Kq_ret ⟨ds, M, L', σ, rs, vs, hs.defers.trans hd, hs.e, hr, h, hM, hp, ⟨hw.g.trans hg, hL _ hw.s⟩⟩)

/-! The statement. -/
def Glob.withD (g : Glob) (d : Nat) : Glob := { g with dfs := ⟨.collected d, #[]⟩ :: g.dfs }
theorem G_range {g0 : Operand} {ps : Array Tmp} {assign body : Code} {f : FuncId} {c1 c2 : List Value} {post : Option Code → List HP → Prop} [H : CalT P f] (hr : g.rnd = none) (hq : ev σ g0 = some (.func (.func f) c1.toArray c2.toArray))
    (hc : ∀ (l d : Nat) (fid : FuncId) (tmps : Array Value), tmps.size = n → SatE σ ⟨tmps, []⟩ → Ctr P f (c1 ++ [Value.func (.yield l) #[] #[]] ++ c2).toArray (obj l (.loop ⟨.ready, none, fid, tmps, ps, assign, body, d⟩) :: obj d (.deferred (some [])) :: L)
      fun v L' => ∃ st p L1, st ≠ .busy ∧ post p L1 ∧ L' = obj l (.loop ⟨st, p, fid, tmps, ps, assign, body, d⟩) :: obj d (.deferred (some [])) :: L1)
    (hN : ∀ d L1, post none L1 → G P B (g.withD d) n K σ (obj d (.deferred (some [])) :: L1))
    (hS : ∀ d c L1, post (some c) L1 → G P B (g.withD d) n (.code c :: K) σ (obj d (.deferred (some [])) :: L1)) :
    G P B g n (.code (.rangeFunc g0 ps assign body) :: K) σ L := fun a w hs hw => by
  show (Code.rangeFunc g0 ps assign body).wpIn (fnc g.rnd) 0 P _ a w
  refine wpIn_rangeFunc fun fid _ => ?_
  have h1 := (hw.allocO (.deferred (some []))).allocO (.loop { state := .ready, pending := none, fn := fid, tmps := a.tmps, params := ps, assign, body, defers := w.heap.size })
  have hC := calls_of (hc _ _ fid a.tmps hs.size (fun t v e => hs.e t v e)) h1
  rw [World.size_alloc] at h1 hC
  have hE := run_enterLoop_outer (P := P) (w := w) fid a.tmps ps assign body
  generalize (w.alloc (.deferred (some []))).alloc (.loop { state := .ready, pending := none, fn := fid, tmps := a.tmps, params := ps, assign, body, defers := w.heap.size }) = W at h1 hC hE
  refine ⟨w.heap.size + 1, [⟨.collected w.heap.size, #[]⟩], W, ⟨.fn (.func f) c2.toArray, c1.toArray ++ #[Value.func (.yield (w.heap.size + 1)) #[] #[]]⟩, W, f, (c1 ++ [Value.func (.yield (w.heap.size + 1)) #[] #[]] ++ c2).toArray, W, ?_, ?_, fun _ _ => trivial, ?_, (fun e => by cases e), (callsIn_wide (n := 0)).2 (hC.mono ?_)⟩
  · rw [show (fnc g.rnd).round = none from hr]
    exact hE
  · have ea : a.eval (.const (Value.func (.yield (w.heap.size + 1)) #[] #[])) = Value.func (.yield (w.heap.size + 1)) #[] #[] := rfl
    simp only [resolve, hs.e.eval hq, Deferred.ofValue, Sem.run_bind, Sem.run_pure, Result.andThen_ok, ea, List.map_toArray, List.map_cons, List.map_nil]
  · have := H.run (c1 ++ [Value.func (.yield (w.heap.size + 1)) #[] #[]] ++ c2).toArray W
    simpa [invoke] using this
  · rintro e w' ⟨v, L', rfl, ⟨st, p, L1, hb, hp, rfl⟩, hw'⟩
    refine ⟨p, _, run_endLoop hw'.obj_heap hb, ?_⟩
    have hw2 : Hp g (obj w.heap.size (.deferred (some [])) :: L1) _ := (hw'.putO (.loop ⟨.exhausted, p, fid, a.tmps, ps, assign, body, w.heap.size⟩)).mono fun _ s => s.tail
    have hs2 : Sat (g.withD w.heap.size) n σ { a with defers := [⟨.collected w.heap.size, #[]⟩] ++ a.defers } := ⟨hs.size, by rw [hs.defers]; rfl, fun t v e => hs.e t v e⟩
    cases p with
    | none => exact hN _ _ hp _ _ hs2 ⟨hw2.g, hw2.s⟩
    | some c => exact hS _ c _ hp _ _ hs2 ⟨hw2.g, hw2.s⟩

/-! What a call of yield comes to. -/
def Yld (P : Program) (l : Nat) (args : List Value) (L : List HP) (post : Bool → List HP → Prop) : Prop :=
  ∀ g F w, Hp g (F :: L) w → ∃ fn tmps assign body, (Instr.yield l args.toArray).run P w = .ok (.round l fn tmps assign body) w ∧
    RoundIn Fence.wide 0 P l fn tmps assign body w fun e w' => ∃ b L', e = .returned (.bool b) ∧ post b L' ∧ Hp g (F :: L') w'
theorem Yld.frame {l : Nat} {args : List Value} {L M : List HP} {post : Bool → List HP → Prop} (Fr : List HP) (h : Yld P l args L post) (hL : ∀ h, sat M h → sat (Fr ++ L) h) : Yld P l args M fun b L' => ∃ L1, post b L1 ∧ L' = Fr ++ L1 := by
  intro g F w hw
  have h1 : Hp g ((fun h => sat (F :: Fr) h) :: L) w := hw.mono fun k s => sat.join (N := F :: Fr) (s.cons_mono hL)
  obtain ⟨fn, tmps, assign, body, e, hR⟩ := h g _ w h1
  exact ⟨fn, tmps, assign, body, e, hR.mono fun e w' ⟨b, L1, e1, p, q⟩ => ⟨b, _, e1, ⟨L1, p, rfl⟩, q.mono fun _ s => sat.part (N := F :: Fr) s⟩⟩
theorem Yld.mono {l : Nat} {args : List Value} {L : List HP} {post post' : Bool → List HP → Prop} (h : Yld P l args L post) (f : ∀ b L', post b L' → post' b L') : Yld P l args L post' := fun g F w hw => by
  obtain ⟨fn, tmps, assign, body, e, hR⟩ := h g F w hw
  exact ⟨fn, tmps, assign, body, e, hR.mono fun e w' ⟨b, L1, e1, p, q⟩ => ⟨b, L1, e1, f _ _ p, q⟩⟩
theorem GO_yield {dst : Option Nat} {q : Operand} {xs : List Operand} {ts : Array TypeId} {ty : TypeId} {pos : String} {aft : Array Edge} {ops : Array Oper} {lst : List Oper} {l : Nat} {args : List Value} {post : Bool → List HP → Prop} (hd : dstOk n dst = true)
    (hq : ev σ q = some (.func (.yield l) #[] #[])) (ha : evs σ xs = some args) (hy : Yld P l args L post) (h : ∀ b L', post b L' → GO P B g n ops lst K (putE σ dst (.bool b)) L') :
    GO P B g n ops (⟨dst, .call ⟨.value q, xs.toArray, ts⟩, ty, pos, aft, none⟩ :: lst) K σ L := fun a w hs hw => by
  refine wpListIn_plain rfl fun Kx hK => ⟨fun _ _ => trivial, ?_⟩
  obtain ⟨fid, tmps, assign, body, e1, hR⟩ := hy g _ w hw.true_
  rw [Oper.semAt_eq _ _ _ (fun c e => by cases e)]
  have e : (execOp a.eval ⟨dst, .call ⟨.value q, xs.toArray, ts⟩, ty, pos, aft, none⟩).run P w = .ok (.round l fid tmps assign body) w := by
    simp only [execOp, resolve, hs.e.eval hq, Deferred.ofValue, Sem.run_bind, Sem.run_pure, Result.andThen_ok, invoke, List.map_toArray, evs_map hs.e ha]
    simpa using e1
  rw [e]
  refine ⟨(fun e => by cases e), RoundIn.mono hR fun e w' ⟨b, L', e1, p, q⟩ => ?_⟩
  subst e1
  exact hK _ _ (h b L' p _ _ (hs.put' _ hd) (q.mono fun _ s => s.tail))

/-! A round. -/
def rndB (g : Glob) (F : HP) (l : Nat) (R : LoopState → Option Code → Obj) (post : Bool → List HP → Prop) : Exit → Act → World → Prop
  | .normal, _, w => ∃ L', post true (obj l (R .ready none) :: L') ∧ Hp g (F :: obj l (R .busy none) :: L') w
  | .ret, _, w => ∃ L', post false (obj l (R .done (some .ret)) :: L') ∧ Hp g (F :: obj l (R .busy none) :: L') w
  | .exit id, _, w => ∃ L', post false (obj l (R .done (some (.exit id))) :: L') ∧ Hp g (F :: obj l (R .busy none) :: L') w
  | _, _, _ => False
theorem rndB_noPanic {F : HP} {l : Nat} {R : LoopState → Option Code → Obj} {post : Bool → List HP → Prop} : noPanic (rndB g F l R post) := fun _ _ _ h => h
theorem Yld_of {ι : Type} {τ : ι → Env} {M : ι → List HP} {Fy : ι → Prop} {l d : Nat} {fid : FuncId} {tmps : Array Value} {p : Tmp} {x : Value} {assign body : Code} {τ0 : Env} {post : Bool → List HP → Prop} {R : LoopState → Option Code → Obj} (hR : R = fun st q => .loop ⟨st, q, fid, tmps, #[p], assign, body, d⟩) (hsz : tmps.size = n) (hτ : SatE τ0 ⟨tmps, []⟩) (hp : Nat.blt p n = true)
    (hA : ∀ g F, g.rnd = some l → g.dfs = [] → G P (fun _ _ _ => False) g n [.code assign, .inv (fun a w => ∃ y, Fy y ∧ Sat g n (τ y) a ∧ Hp g (F :: obj l (R .ready none) :: M y) w)] ((p, x) :: τ0) (F :: obj l (R .ready none) :: L))
    (hB : ∀ g F y, Fy y → g.rnd = some l → g.dfs = [] → G P (rndB g F l R post) g n [.code body] (τ y) (F :: obj l (R .busy none) :: M y)) :
    Yld P l [x] (obj l (R .ready none) :: L) post := fun g F w hw => by
  subst hR
  have hw1 := hw.mono fun _ s => s.swap
  have hy := run_yield (P := P) (args := [x].toArray) hw1.obj_heap rfl
  refine ⟨fid, tmps.setIfInBounds p x, assign, body, by simpa using hy, roundIn_of_wpIn trivial ?_⟩
  have hs0 : Sat ⟨g.os, g.tape, g.output, [], some l⟩ n τ0 ⟨tmps, []⟩ := ⟨hsz, rfl, hτ⟩
  have h1 := hA ⟨g.os, g.tape, g.output, [], some l⟩ F rfl rfl _ w (hs0.put x hp) ⟨hw.g, hw.s⟩
  refine Code.wpIn_mono (fun e a1 w1 h => ?_) h1
  cases e with
  | normal =>
    obtain ⟨y, fy, hs1, hw2⟩ := h
    have hw3 := hw2.mono fun _ s => s.swap
    refine ⟨_, run_beginRound hw3.obj_heap rfl, ?_⟩
    have hw4 := (hw3.putO (.loop ⟨.busy, none, fid, tmps, #[p], assign, body, d⟩)).mono fun _ s => s.swap
    have h2 := hB _ F y fy rfl rfl a1 _ hs1 hw4
    refine Code.wpIn_mono (fun e a3 w3 h3 => ?_) h2
    cases e with
    | normal =>
      obtain ⟨L', hp', hw5⟩ := h3
      have hw6 := hw5.mono fun _ s => s.swap
      have hw7 := (hw6.putO (.loop ⟨.ready, none, fid, tmps, #[p], assign, body, d⟩)).mono fun _ s => s.swap
      exact ⟨_, _, run_endRound none hw6.obj_heap, true, _, rfl, hp', ⟨hw7.g, hw7.s⟩⟩
    | ret =>
      obtain ⟨L', hp', hw5⟩ := h3
      have hw6 := hw5.mono fun _ s => s.swap
      have hw7 := (hw6.putO (.loop ⟨.done, some .ret, fid, tmps, #[p], assign, body, d⟩)).mono fun _ s => s.swap
      exact ⟨_, _, run_endRound (some .ret) hw6.obj_heap, false, _, rfl, hp', ⟨hw7.g, hw7.s⟩⟩
    | exit id =>
      obtain ⟨L', hp', hw5⟩ := h3
      have hw6 := hw5.mono fun _ s => s.swap
      have hw7 := (hw6.putO (.loop ⟨.done, some (.exit id), fid, tmps, #[p], assign, body, d⟩)).mono fun _ s => s.swap
      exact ⟨_, _, run_endRound (some (.exit id)) hw6.obj_heap, false, _, rfl, hp', ⟨hw7.g, hw7.s⟩⟩
    | _ => exact h3.elim
  | _ => exact h.elim
/-- What a loop's rounds come to, its record being R. -/
def Rnd (P : Program) (n : Nat) (σ : Env) (l : Nat) (p : Tmp) (assign body : Code) (R : LoopState → Option Code → Obj) : Prop :=
  ∀ {ι : Type} {τ : ι → Env} {M : ι → List HP} {Fy : ι → Prop} {x : Value} {L : List HP} {post : Bool → List HP → Prop},
    (∀ g F, g.rnd = some l → g.dfs = [] → G P (fun _ _ _ => False) g n [.code assign, .inv (fun a w => ∃ y, Fy y ∧ Sat g n (τ y) a ∧ Hp g (F :: obj l (R .ready none) :: M y) w)] ((p, x) :: σ) (F :: obj l (R .ready none) :: L)) →
    (∀ g F y, Fy y → g.rnd = some l → g.dfs = [] → G P (rndB g F l R post) g n [.code body] (τ y) (F :: obj l (R .busy none) :: M y)) →
    Yld P l [x] (obj l (R .ready none) :: L) post
/-- A range with one variable. -/
theorem G_range1 {g0 : Operand} {p : Tmp} {assign body : Code} {f : FuncId} {c1 c2 : List Value} {post : Option Code → List HP → Prop} [H : CalT P f] (hr : g.rnd = none) (hp : Nat.blt p n = true) (hq : ev σ g0 = some (.func (.func f) c1.toArray c2.toArray))
    (hc : ∀ (l d : Nat) (R : LoopState → Option Code → Obj), Rnd P n σ l p assign body R → Ctr P f (c1 ++ [Value.func (.yield l) #[] #[]] ++ c2).toArray (obj l (R .ready none) :: obj d (.deferred (some [])) :: L)
      fun v L' => ∃ st q L1, st ≠ .busy ∧ post q L1 ∧ L' = obj l (R st q) :: obj d (.deferred (some [])) :: L1)
    (hN : ∀ d L1, post none L1 → G P B (g.withD d) n K σ (obj d (.deferred (some [])) :: L1))
    (hS : ∀ d c L1, post (some c) L1 → G P B (g.withD d) n (.code c :: K) σ (obj d (.deferred (some [])) :: L1)) :
    G P B g n (.code (.rangeFunc g0 #[p] assign body) :: K) σ L :=
  G_range hr hq (fun l d fid tmps hsz hσ => hc l d (fun st q => .loop ⟨st, q, fid, tmps, #[p], assign, body, d⟩) fun hA hB => Yld_of rfl hsz hσ hp hA hB) hN hS
/-- The variable has its value; a round's end. -/
theorem G_rndStart {ι : Type} {τ : ι → Env} {M : ι → List HP} {Fy : ι → Prop} {F : HP} {l : Nat} {r : Obj} (y : ι) (hf : Fy y) (hσ : envSub σ (τ y)) (hL : ∀ h, sat L h → sat (F :: obj l r :: M y) h) :
    G P B g n [.inv (fun a w => ∃ y, Fy y ∧ Sat g n (τ y) a ∧ Hp g (F :: obj l r :: M y) w)] σ L := fun _ _ hs hw => ⟨y, hf, hs.sub hσ, hw.mono hL⟩
theorem G_rndEnd {F : HP} {l : Nat} {R : LoopState → Option Code → Obj} {post : Bool → List HP → Prop} (L' : List HP) (hp : post true (obj l (R .ready none) :: L')) (hL : ∀ h, sat L h → sat (F :: obj l (R .busy none) :: L') h) :
    G P (rndB g F l R post) g n [] σ L := fun _ _ _ hw => ⟨L', hp, hw.mono hL⟩
end
end Go.Proofs.YtjnmpogolknkpaaGreat
/- Picking out of numbers, by cmp.Less: the walks. -/
namespace Go.Proofs.YtjnmpogolknkpaaGreat
attribute [local irreducible] sat
set_option linter.unusedVariables false
set_option linter.unusedSimpArgs false
set_option maxRecDepth 100000

theorem clessI_ctr (a b : Int) (L : List HP) : Ctr Tryz.prog 133 #[.int .i64 a, .int .i64 b] L fun v L' => v = .bool (ltI a b) ∧ L' = L := cless_ctr a b L
theorem takeI_snoc {l : List Int} {k : Nat} {x : Int} (h : l[k]? = some x) : l.take (k + 1) = l.take k ++ [x] := by
  rw [List.take_add_one, h]; rfl
theorem lowO_snoc (v x : Int) (l : List Int) : lowO ltI v (l ++ [x]) = lowO ltI v l ++ if ltI x v = true then [x] else [] := by
  unfold lowO; rw [List.filter_append]; congr 1; simp [List.filter_cons]
theorem likeO_snoc (v x : Int) (l : List Int) : likeO v (l ++ [x]) = likeO v l ++ if x = v then [x] else [] := by
  unfold likeO; rw [List.filter_append]; congr 1; simp [List.filter_cons]
theorem highO_snoc (v x : Int) (l : List Int) : highO ltI v (l ++ [x]) = highO ltI v l ++ if ltI v x = true then [x] else [] := by
  unfold highO; rw [List.filter_append]; congr 1; simp [List.filter_cons]
/-- Three slices of a call's own. -/
structure P3 where
  A1 : Option Addr
  c1 : Nat
  A2 : Option Addr
  c2 : Nat
  A3 : Option Addr
  c3 : Nat
structure P3.Ok (s : P3) (n1 n2 n3 : Nat) : Prop where
  h1 : 0 < n1 → ∃ b, s.A1 = some ⟨b, 0, none⟩
  h2 : 0 < n2 → ∃ b, s.A2 = some ⟨b, 0, none⟩
  h3 : 0 < n3 → ∃ b, s.A3 = some ⟨b, 0, none⟩
  k1 : n1 ≤ s.c1
  k2 : n2 ≤ s.c2
  k3 : n3 ≤ s.c3
theorem partsI_ctr (A : Option Addr) (n c : Nat) (l : List Int) (v : Int) (L : List HP) (hl : Rd L A n l) (hn : n ≤ 1000000) :
    Ctr Tryz.prog 163 #[.slice A n c, .int .i64 v, .func (.func 133) #[] #[]] L fun r L' => ∃ s : P3, r = .tuple #[.slice s.A1 (lowO ltI v l).length s.c1, .slice s.A2 (likeO v l).length s.c2, .slice s.A3 (highO ltI v l).length s.c3] ∧ s.Ok (lowO ltI v l).length (likeO v l).length (highO ltI v l).length ∧
      L' = own 3 1 s.A1 (lowO ltI v l).length s.c1 (flat (lowO ltI v l)) :: own 3 1 s.A2 (likeO v l).length s.c2 (flat (likeO v l)) :: own 3 1 s.A3 (highO ltI v l).length s.c3 (flat (highO ltI v l)) :: L := by
  have h1 : l.length = n := hl.len (by decide)
  refine Ctr_of (fn := Tryz.f163) (n := 43) Tryz.func163 rfl rfl rfl ?_
  intro g F
  (repeat first | refine G_seq ?_ | refine G_skip ?_ | refine G_endblk ?_ | refine G_block ?_ | refine G_exit rfl ?_)
  refine G_region ?_
  refine GO_q rfl rfl (ev_assign rfl) ?_
  refine GO_q rfl rfl (ev_assign rfl) ?_
  refine GO_q rfl rfl (ev_assign rfl) ?_
  refine GO_nil ?_
  (repeat first | refine G_seq ?_ | refine G_skip ?_ | refine G_endblk ?_ | refine G_block ?_ | refine G_exit rfl ?_)
  refine G_region ?_
  refine GO_q rfl rfl (ev_move rfl) ?_
  refine GO_q rfl rfl (ev_len rfl) ?_
  refine GO_q rfl rfl (ev_move rfl) ?_
  refine GO_nil ?_
  (repeat first | refine G_seq ?_ | refine G_skip ?_ | refine G_endblk ?_ | refine G_block ?_ | refine G_exit rfl ?_)
  refine G_heap (own.nil_ 3 1) ?_
  refine G_heap (own.nil_ 3 1) ?_
  refine G_heap (own.nil_ 3 1) ?_
  refine G_loop (ι := Nat × P3) (fun z => [(1, .int .i64 v), (2, .func (.func 133) #[] #[]), (6, .slice z.2.A1 (lowO ltI v (l.take z.1)).length z.2.c1), (7, .slice z.2.A2 (likeO v (l.take z.1)).length z.2.c2), (8, .slice z.2.A3 (highO ltI v (l.take z.1)).length z.2.c3), (11, .slice A n c), (12, .int .i64 (n : Nat)), (13, .int .i64 (z.1 : Nat))])
    (fun z => own 3 1 z.2.A1 (lowO ltI v (l.take z.1)).length z.2.c1 (flat (lowO ltI v (l.take z.1))) :: own 3 1 z.2.A2 (likeO v (l.take z.1)).length z.2.c2 (flat (likeO v (l.take z.1))) :: own 3 1 z.2.A3 (highO ltI v (l.take z.1)).length z.2.c3 (flat (highO ltI v (l.take z.1))) :: F :: L)
    (fun z => z.1 ≤ n ∧ z.2.Ok (lowO ltI v (l.take z.1)).length (likeO v (l.take z.1)).length (highO ltI v (l.take z.1)).length) (fun z => n - z.1) (0, ⟨none, 0, none, 0, none, 0⟩) ⟨Nat.zero_le _, ⟨fun h => absurd h (Nat.lt_irrefl 0), fun h => absurd h (Nat.lt_irrefl 0), fun h => absurd h (Nat.lt_irrefl 0), Nat.le_refl _, Nat.le_refl _, Nat.le_refl _⟩⟩ ⟨rfl, rfl, rfl, rfl, rfl, rfl, rfl, rfl, trivial⟩ (by (repeat first | exact fun _ s => s | apply en_keep | apply en_drop | apply en_app) <;> fail) ?_
  rintro ⟨k, s⟩ ⟨f1, f2⟩
  simp only at f1 f2
  dsimp only
  have b1 : (lowO ltI v (l.take k)).length ≤ 1000000 := Nat.le_trans (List.length_filter_le _ _) (by rw [List.length_take]; omega)
  have b2 : (likeO v (l.take k)).length ≤ 1000000 := Nat.le_trans (List.length_filter_le _ _) (by rw [List.length_take]; omega)
  have b3 : (highO ltI v (l.take k)).length ≤ 1000000 := Nat.le_trans (List.length_filter_le _ _) (by rw [List.length_take]; omega)
  (repeat first | refine G_seq ?_ | refine G_skip ?_ | refine G_endblk ?_ | refine G_block ?_ | refine G_exit rfl ?_)
  refine G_region ?_
  (first | refine GO_q rfl rfl (ev_lssN rfl rfl) ?_ | refine GO_q rfl rfl (ev_lss rfl rfl) ?_)
  refine GO_nil ?_
  (repeat first | refine G_seq ?_ | refine G_skip ?_ | refine G_endblk ?_ | refine G_block ?_ | refine G_exit rfl ?_)
  refine G_cond rfl (fun q1 => ?_) (fun q1 => ?_)
  · obtain ⟨ab, ao, rfl, ax⟩ := hl.at_ (by omega)
    have g1 : l[k]? = some l[k] := List.getElem?_eq_getElem (by omega)
    have y1 := (ax _ _ g1).at_ (i := 0) rfl
    have hs := takeI_snoc g1
    generalize l[k] = x at *
    have z1 : Ld L ⟨ab, ao + k * 1, none⟩ (.int .i64 x) := y1
    have t1 := lowO_snoc v x (l.take k)
    have t2 := likeO_snoc v x (l.take k)
    have t3 := highO_snoc v x (l.take k)
    rw [← hs] at t1 t2 t3
    (repeat first | refine G_seq ?_ | refine G_skip ?_ | refine G_endblk ?_ | refine G_block ?_ | refine G_exit rfl ?_)
    refine G_region ?_
    (first | refine GO_q rfl rfl (ev_indexAddrN rfl rfl (by first | omega | (simp; done) | (simp; omega))) ?_ | refine GO_q rfl rfl (ev_indexAddr rfl rfl (by first | omega | (simp; done) | (simp; omega)) (by first | omega | (simp; done) | (simp; omega))) ?_)
    refine GO_q rfl rfl (ev_load rfl (by repeat' first | exact Ld.blk rfl | assumption | apply Ld.skip | apply Ld.app)) ?_
    refine GO_q rfl rfl (ev_assign rfl) ?_
    refine GO_nil ?_
    (repeat first | refine G_seq ?_ | refine G_skip ?_ | refine G_endblk ?_ | refine G_block ?_ | refine G_exit rfl ?_)
    refine G_region ?_
    refine GO_q rfl rfl (ev_move rfl) ?_
    refine GO_q rfl rfl (ev_move rfl) ?_
    refine GO_q rfl rfl (ev_move rfl) ?_
    refine GO_eff rfl rfl (eff_callv rfl rfl (clessI_ctr x v _)) ?_; rintro _ _ ⟨rfl, rfl⟩
    refine GO_q rfl rfl (ev_assign rfl) ?_
    refine GO_nil ?_
    rcases Int.lt_trichotomy x v with q | q | q
    · have e1 : ltI x v = true := by simp [ltI, q]
      have e3 : ltI v x = false := by simp [ltI]; omega
      rw [e1, if_pos rfl] at t1
      rw [if_neg (by omega), List.append_nil] at t2
      rw [e3, if_neg (by simp), List.append_nil] at t3
      (repeat first | refine G_seq ?_ | refine G_skip ?_ | refine G_endblk ?_ | refine G_block ?_ | refine G_exit rfl ?_)
      refine G_cond_t rfl e1 ?_
      (repeat first | refine G_seq ?_ | refine G_skip ?_ | refine G_endblk ?_ | refine G_block ?_ | refine G_exit rfl ?_)
      refine G_region ?_
      refine GO_q rfl rfl (ev_move rfl) ?_
      refine GO_q rfl rfl (ev_move rfl) ?_
      refine GO_eff rfl rfl (eff_buildSlice1 (by rfl) rfl rfl) ?_; rintro _ _ ⟨b28, rfl, rfl⟩
      refine GO_eff rfl rfl (eff_append rfl rfl (by repeat' first | exact Pick.here | apply Pick.skip) (by repeat' first | exact Rc.blk rfl | assumption | apply Rc.skip) (one_all rfl) (by rfl) (by decide) (by first | omega | (simp; done) | (simp; omega)) (by first | omega | (simp; done) | (simp; omega))) ?_; rintro _ _ ⟨A29, c29, rfl, hc29, hm29, hn29, rfl⟩
      refine GO_q rfl rfl (ev_assign rfl) ?_
      refine GO_nil ?_
      (repeat first | refine G_seq ?_ | refine G_skip ?_ | refine G_endblk ?_ | refine G_block ?_ | refine G_exit rfl ?_)
      refine G_region ?_
      (first | refine GO_q rfl rfl (ev_addN (q := 1) rfl rfl (by first | omega | (simp; done) | (simp; omega))) ?_ | refine GO_q rfl rfl (ev_add rfl rfl (by first | omega | (simp; done) | (simp; omega))) ?_)
      refine GO_q rfl rfl (ev_move rfl) ?_
      refine GO_nil ?_
      (repeat first | refine G_seq ?_ | refine G_skip ?_ | refine G_endblk ?_ | refine G_block ?_ | refine G_exit rfl ?_)
      exact G_round (k + 1, { s with A1 := A29, c1 := c29 }) ⟨by simp only; omega, by
        simp only
        rw [t1, t2, t3, List.length_append]
        exact ⟨fun _ => hn29 (by omega), f2.h2, f2.h3, hc29, f2.k2, f2.k3⟩⟩ (by simp only; omega) ⟨rfl, rfl, by simp only; rw [t1, List.length_append]; rfl, by simp only; rw [t2]; rfl, by simp only; rw [t3]; rfl, rfl, rfl, rfl, trivial⟩ (by
        simp only
        rw [t1, t2, t3, List.length_append, ← flat_snoc]
        exact (by (repeat first | exact en_refl | (apply en_blk; focus ((repeat' first | exact Pick.here | apply Pick.skip | apply Pick.app); done); focus rfl) | (apply en_own; focus ((repeat' first | exact Pick.here | apply Pick.skip | apply Pick.app); done); focus rfl) | (apply en_pick; focus ((repeat' first | exact Pick.here | apply Pick.skip | apply Pick.app); done)) | apply en_drop | apply en_app) <;> fail))
    · subst q
      have e1 : ltI x x = false := by simp [ltI]
      rw [e1, if_neg (by simp), List.append_nil] at t1
      rw [if_pos rfl] at t2
      rw [e1, if_neg (by simp), List.append_nil] at t3
      (repeat first | refine G_seq ?_ | refine G_skip ?_ | refine G_endblk ?_ | refine G_block ?_ | refine G_exit rfl ?_)
      refine G_cond_f rfl e1 ?_
      (repeat first | refine G_seq ?_ | refine G_skip ?_ | refine G_endblk ?_ | refine G_block ?_ | refine G_exit rfl ?_)
      refine G_region ?_
      refine GO_q rfl rfl (ev_move rfl) ?_
      refine GO_q rfl rfl (ev_move rfl) ?_
      refine GO_q rfl rfl (ev_move rfl) ?_
      refine GO_eff rfl rfl (eff_callv rfl rfl (clessI_ctr x x _)) ?_; rintro _ _ ⟨rfl, rfl⟩
      refine GO_q rfl rfl (ev_assign rfl) ?_
      refine GO_nil ?_
      (repeat first | refine G_seq ?_ | refine G_skip ?_ | refine G_endblk ?_ | refine G_block ?_ | refine G_exit rfl ?_)
      refine G_cond_f rfl e1 ?_
      (repeat first | refine G_seq ?_ | refine G_skip ?_ | refine G_endblk ?_ | refine G_block ?_ | refine G_exit rfl ?_)
      refine G_region ?_
      refine GO_q rfl rfl (ev_move rfl) ?_
      refine GO_q rfl rfl (ev_move rfl) ?_
      refine GO_eff rfl rfl (eff_buildSlice1 (by rfl) rfl rfl) ?_; rintro _ _ ⟨b19, rfl, rfl⟩
      refine GO_eff rfl rfl (eff_append rfl rfl (by repeat' first | exact Pick.here | apply Pick.skip) (by repeat' first | exact Rc.blk rfl | assumption | apply Rc.skip) (one_all rfl) (by rfl) (by decide) (by first | omega | (simp; done) | (simp; omega)) (by first | omega | (simp; done) | (simp; omega))) ?_; rintro _ _ ⟨A20, c20, rfl, hc20, hm20, hn20, rfl⟩
      refine GO_q rfl rfl (ev_assign rfl) ?_
      refine GO_nil ?_
      (repeat first | refine G_seq ?_ | refine G_skip ?_ | refine G_endblk ?_ | refine G_block ?_ | refine G_exit rfl ?_)
      refine G_region ?_
      (first | refine GO_q rfl rfl (ev_addN (q := 1) rfl rfl (by first | omega | (simp; done) | (simp; omega))) ?_ | refine GO_q rfl rfl (ev_add rfl rfl (by first | omega | (simp; done) | (simp; omega))) ?_)
      refine GO_q rfl rfl (ev_move rfl) ?_
      refine GO_nil ?_
      (repeat first | refine G_seq ?_ | refine G_skip ?_ | refine G_endblk ?_ | refine G_block ?_ | refine G_exit rfl ?_)
      exact G_round (k + 1, { s with A2 := A20, c2 := c20 }) ⟨by simp only; omega, by
        simp only
        rw [t1, t2, t3, List.length_append]
        exact ⟨f2.h1, fun _ => hn20 (by omega), f2.h3, f2.k1, hc20, f2.k3⟩⟩ (by simp only; omega) ⟨rfl, rfl, by simp only; rw [t1]; rfl, by simp only; rw [t2, List.length_append]; rfl, by simp only; rw [t3]; rfl, rfl, rfl, rfl, trivial⟩ (by
        simp only
        rw [t1, t2, t3, List.length_append, ← flat_snoc]
        exact (by (repeat first | exact en_refl | (apply en_blk; focus ((repeat' first | exact Pick.here | apply Pick.skip | apply Pick.app); done); focus rfl) | (apply en_own; focus ((repeat' first | exact Pick.here | apply Pick.skip | apply Pick.app); done); focus rfl) | (apply en_pick; focus ((repeat' first | exact Pick.here | apply Pick.skip | apply Pick.app); done)) | apply en_drop | apply en_app) <;> fail))
    · have e1 : ltI x v = false := by simp [ltI]; omega
      have e3 : ltI v x = true := by simp [ltI]; omega
      rw [e1, if_neg (by simp), List.append_nil] at t1
      rw [if_neg (by omega), List.append_nil] at t2
      rw [e3, if_pos rfl] at t3
      (repeat first | refine G_seq ?_ | refine G_skip ?_ | refine G_endblk ?_ | refine G_block ?_ | refine G_exit rfl ?_)
      refine G_cond_f rfl e1 ?_
      (repeat first | refine G_seq ?_ | refine G_skip ?_ | refine G_endblk ?_ | refine G_block ?_ | refine G_exit rfl ?_)
      refine G_region ?_
      refine GO_q rfl rfl (ev_move rfl) ?_
      refine GO_q rfl rfl (ev_move rfl) ?_
      refine GO_q rfl rfl (ev_move rfl) ?_
      refine GO_eff rfl rfl (eff_callv rfl rfl (clessI_ctr v x _)) ?_; rintro _ _ ⟨rfl, rfl⟩
      refine GO_q rfl rfl (ev_assign rfl) ?_
      refine GO_nil ?_
      (repeat first | refine G_seq ?_ | refine G_skip ?_ | refine G_endblk ?_ | refine G_block ?_ | refine G_exit rfl ?_)
      refine G_cond_t rfl e3 ?_
      (repeat first | refine G_seq ?_ | refine G_skip ?_ | refine G_endblk ?_ | refine G_block ?_ | refine G_exit rfl ?_)
      refine G_region ?_
      refine GO_q rfl rfl (ev_move rfl) ?_
      refine GO_q rfl rfl (ev_move rfl) ?_
      refine GO_eff rfl rfl (eff_buildSlice1 (by rfl) rfl rfl) ?_; rintro _ _ ⟨b37, rfl, rfl⟩
      refine GO_eff rfl rfl (eff_append rfl rfl (by repeat' first | exact Pick.here | apply Pick.skip) (by repeat' first | exact Rc.blk rfl | assumption | apply Rc.skip) (one_all rfl) (by rfl) (by decide) (by first | omega | (simp; done) | (simp; omega)) (by first | omega | (simp; done) | (simp; omega))) ?_; rintro _ _ ⟨A38, c38, rfl, hc38, hm38, hn38, rfl⟩
      refine GO_q rfl rfl (ev_assign rfl) ?_
      refine GO_nil ?_
      (repeat first | refine G_seq ?_ | refine G_skip ?_ | refine G_endblk ?_ | refine G_block ?_ | refine G_exit rfl ?_)
      refine G_region ?_
      (first | refine GO_q rfl rfl (ev_addN (q := 1) rfl rfl (by first | omega | (simp; done) | (simp; omega))) ?_ | refine GO_q rfl rfl (ev_add rfl rfl (by first | omega | (simp; done) | (simp; omega))) ?_)
      refine GO_q rfl rfl (ev_move rfl) ?_
      refine GO_nil ?_
      (repeat first | refine G_seq ?_ | refine G_skip ?_ | refine G_endblk ?_ | refine G_block ?_ | refine G_exit rfl ?_)
      exact G_round (k + 1, { s with A3 := A38, c3 := c38 }) ⟨by simp only; omega, by
        simp only
        rw [t1, t2, t3, List.length_append]
        exact ⟨f2.h1, f2.h2, fun _ => hn38 (by omega), f2.k1, f2.k2, hc38⟩⟩ (by simp only; omega) ⟨rfl, rfl, by simp only; rw [t1]; rfl, by simp only; rw [t2]; rfl, by simp only; rw [t3, List.length_append]; rfl, rfl, rfl, rfl, trivial⟩ (by
        simp only
        rw [t1, t2, t3, List.length_append, ← flat_snoc]
        exact (by (repeat first | exact en_refl | (apply en_blk; focus ((repeat' first | exact Pick.here | apply Pick.skip | apply Pick.app); done); focus rfl) | (apply en_own; focus ((repeat' first | exact Pick.here | apply Pick.skip | apply Pick.app); done); focus rfl) | (apply en_pick; focus ((repeat' first | exact Pick.here | apply Pick.skip | apply Pick.app); done)) | apply en_drop | apply en_app) <;> fail))
  · have e : l.take k = l := List.take_of_length_le (by omega)
    rw [e] at f2 ⊢
    (repeat first | refine G_seq ?_ | refine G_skip ?_ | refine G_endblk ?_ | refine G_block ?_ | refine G_exit rfl ?_)
    refine G_region ?_
    refine GO_q rfl rfl (ev_move rfl) ?_
    refine GO_q rfl rfl (ev_move rfl) ?_
    refine GO_q rfl rfl (ev_move rfl) ?_
    refine GO_q rfl rfl (ev_assign rfl) ?_
    refine GO_q rfl rfl (ev_assign rfl) ?_
    refine GO_q rfl rfl (ev_assign rfl) ?_
    refine GO_nil ?_
    (repeat first | refine G_seq ?_ | refine G_skip ?_ | refine G_endblk ?_ | refine G_block ?_ | refine G_exit rfl ?_)
    exact G_ret (L' := own 3 1 s.A1 (lowO ltI v l).length s.c1 (flat (lowO ltI v l)) :: own 3 1 s.A2 (likeO v l).length s.c2 (flat (likeO v l)) :: own 3 1 s.A3 (highO ltI v l).length s.c3 (flat (highO ltI v l)) :: L) rfl (.tmp rfl (.tmp rfl (.tmp rfl .nil))) (by (repeat first | exact en_refl | (apply en_blk; focus ((repeat' first | exact Pick.here | apply Pick.skip | apply Pick.app); done); focus rfl) | (apply en_own; focus ((repeat' first | exact Pick.here | apply Pick.skip | apply Pick.app); done); focus rfl) | (apply en_pick; focus ((repeat' first | exact Pick.here | apply Pick.skip | apply Pick.app); done)) | apply en_drop | apply en_app) <;> fail) ⟨s, rfl, f2, rfl⟩
/-- slices.Chunk -/
theorem Chunk_ctr (A : Option Addr) (n c : Nat) (L : List HP) : Ctr Tryz.prog 167 #[.slice A n c, .int .i64 5] L fun v L' => ∃ b2 b3, v = .func (.func 169) #[] #[.pointer (some ⟨b2, 0, none⟩), .pointer (some ⟨b3, 0, none⟩)] ∧ L' = blk b2 33 [.slice A n c] :: blk b3 3 [.int .i64 5] :: L := by
  refine Ctr_of (fn := Tryz.f167) (n := 9) Tryz.func167 rfl rfl rfl ?_
  intro g F
  (repeat first | refine G_seq ?_ | refine G_skip ?_ | refine G_endblk ?_ | refine G_block ?_ | refine G_exit rfl ?_)
  refine G_region ?_
  refine GO_eff rfl rfl (eff_box rfl) ?_; rintro _ _ ⟨b2, rfl, rfl⟩
  refine GO_eff rfl rfl (eff_box rfl) ?_; rintro _ _ ⟨b3, rfl, rfl⟩
  refine GO_q rfl rfl (ev_assign rfl) ?_
  refine GO_nil ?_
  (repeat first | refine G_seq ?_ | refine G_skip ?_ | refine G_endblk ?_ | refine G_block ?_ | refine G_exit rfl ?_)
  refine G_region ?_
  refine GO_q rfl rfl (ev_load rfl (by repeat' first | exact Ld.blk rfl | assumption | apply Ld.skip | apply Ld.app)) ?_
  (first | refine GO_q rfl rfl (ev_lssN (q := 1) rfl rfl) ?_ | refine GO_q rfl rfl (ev_lss rfl rfl) ?_)
  refine GO_nil ?_
  (repeat first | refine G_seq ?_ | refine G_skip ?_ | refine G_endblk ?_ | refine G_block ?_ | refine G_exit rfl ?_)
  refine G_cond_f rfl rfl ?_
  (repeat first | refine G_seq ?_ | refine G_skip ?_ | refine G_endblk ?_ | refine G_block ?_ | refine G_exit rfl ?_)
  refine G_region ?_
  refine GO_q rfl rfl (ev_makeFunc rfl rfl) ?_
  refine GO_q rfl rfl (ev_assign rfl) ?_
  refine GO_nil ?_
  (repeat first | refine G_seq ?_ | refine G_skip ?_ | refine G_endblk ?_ | refine G_block ?_ | refine G_exit rfl ?_)
  exact G_ret (L' := blk b2 33 [.slice A n c] :: blk b3 3 [.int .i64 5] :: L) rfl (.tmp rfl .nil) (by (repeat first | exact en_refl | (apply en_blk; focus ((repeat' first | exact Pick.here | apply Pick.skip | apply Pick.app); done); focus rfl) | (apply en_own; focus ((repeat' first | exact Pick.here | apply Pick.skip | apply Pick.app); done); focus rfl) | (apply en_pick; focus ((repeat' first | exact Pick.here | apply Pick.skip | apply Pick.app); done)) | apply en_drop | apply en_app) <;> fail) ⟨b2, b3, rfl, rfl⟩
theorem chunks_ctr {S : Type} (y b2 b3 b o n c : Nat) (xs : List Int) (L : Nat → S → List HP) (Inv : Nat → S → Prop) (hRd : ∀ k s, Inv k s → Rd (L k s) (some ⟨b, o, none⟩) n xs) (hn : n ≤ 1000000) (hc : n ≤ c)
    (hy : ∀ k s, 5 * k < n → Inv k s → Yld Tryz.prog y [.slice (some ⟨b, o + 5 * k, none⟩) (min 5 (n - 5 * k)) (min 5 (n - 5 * k))] (L k s) fun q L' => q = true ∧ ∃ s', Inv (k + 1) s' ∧ L' = L (k + 1) s') (s0 : S) (h0 : Inv 0 s0) :
    Ctr Tryz.prog 169 #[Value.func (.yield y) #[] #[], .pointer (some ⟨b2, 0, none⟩), .pointer (some ⟨b3, 0, none⟩)] (blk b2 33 [.slice (some ⟨b, o, none⟩) n c] :: blk b3 3 [.int .i64 5] :: L 0 s0) fun v L' => v = .tuple #[] ∧ ∃ k s', n ≤ 5 * k ∧ 5 * k < n + 5 ∧ Inv k s' ∧ L' = blk b2 33 [.slice (some ⟨b, o, none⟩) n c] :: blk b3 3 [.int .i64 5] :: L k s' := by
  refine Ctr_of (fn := Tryz.f169) (n := 31) Tryz.func169 rfl rfl rfl ?_
  intro g F
  (repeat first | refine G_seq ?_ | refine G_skip ?_ | refine G_endblk ?_ | refine G_block ?_ | refine G_exit rfl ?_)
  refine G_region ?_
  refine GO_q rfl rfl (ev_assign rfl) ?_
  refine GO_nil ?_
  (repeat first | refine G_seq ?_ | refine G_skip ?_ | refine G_endblk ?_ | refine G_block ?_ | refine G_exit rfl ?_)
  refine G_loop (ι := Nat × S) (fun z => [(0, Value.func (.yield y) #[] #[]), (1, .pointer (some ⟨b2, 0, none⟩)), (2, .pointer (some ⟨b3, 0, none⟩)), (4, .int .i64 ((5 * z.1 : Nat) : Int))]) (fun z => F :: blk b2 33 [.slice (some ⟨b, o, none⟩) n c] :: blk b3 3 [.int .i64 5] :: L z.1 z.2) (fun z => 5 * z.1 < n + 5 ∧ Inv z.1 z.2) (fun z => n + 5 - 5 * z.1) (0, s0) ⟨by simp only; omega, h0⟩ ⟨rfl, rfl, rfl, rfl, trivial⟩ (by (repeat first | exact fun _ s => s | apply en_keep | apply en_drop | apply en_app) <;> fail) ?_
  rintro ⟨k, s⟩ ⟨f1, f2⟩
  simp only at f1 f2
  dsimp only
  (repeat first | refine G_seq ?_ | refine G_skip ?_ | refine G_endblk ?_ | refine G_block ?_ | refine G_exit rfl ?_)
  refine G_region ?_
  refine GO_q rfl rfl (ev_move rfl) ?_
  refine GO_q rfl rfl (ev_load rfl (by repeat' first | exact Ld.blk rfl | assumption | apply Ld.skip | apply Ld.app)) ?_
  refine GO_q rfl rfl (ev_len rfl) ?_
  (first | refine GO_q rfl rfl (ev_lssN rfl rfl) ?_ | refine GO_q rfl rfl (ev_lss rfl rfl) ?_)
  refine GO_nil ?_
  (repeat first | refine G_seq ?_ | refine G_skip ?_ | refine G_endblk ?_ | refine G_block ?_ | refine G_exit rfl ?_)
  refine G_cond rfl (fun q1 => ?_) (fun q1 => ?_)
  · have hyk := hy k s (by omega) f2
    obtain ⟨i, hi⟩ : ∃ i, i = 5 * k := ⟨_, rfl⟩
    obtain ⟨m, hm⟩ : ∃ m, m = min 5 (n - i) := ⟨_, rfl⟩
    have hme : (min (5 : Int) ((n - i : Nat) : Int)) = (m : Int) := by omega
    rw [← hi] at hyk q1 f1 ⊢
    rw [← hm] at hyk
    (repeat first | refine G_seq ?_ | refine G_skip ?_ | refine G_endblk ?_ | refine G_block ?_ | refine G_exit rfl ?_)
    refine G_draw (.q 0 (.q 1 (.q 2 (.q 3 (.q 4 (.q 5 (.q 6 .nil))))))) (by kernel_rfl) (by kernel_rfl) ?_
    refine RS_q retB_noPanic rfl rfl rfl rfl (ev_load rfl (by repeat' first | exact Ld.blk rfl | assumption | apply Ld.skip | apply Ld.app)) ?_
    refine RS_q retB_noPanic rfl rfl rfl rfl (ev_load rfl (by repeat' first | exact Ld.blk rfl | assumption | apply Ld.skip | apply Ld.app)) ?_
    refine RS_m retB_noPanic rfl rfl rfl rfl (ev_move rfl) ?_
    refine RS_q retB_noPanic rfl rfl rfl rfl (ev_sliceL rfl rfl (by omega) (by omega)) ?_
    refine RS_q retB_noPanic rfl rfl rfl rfl (ev_len rfl) ?_
    refine RS_q retB_noPanic rfl rfl rfl rfl (ev_min rfl rfl) ?_
    refine RS_m retB_noPanic rfl rfl rfl rfl (ev_assign rfl) ?_
    refine RS_nil ?_
    rw [hme]
    (repeat first | refine G_seq ?_ | refine G_skip ?_ | refine G_endblk ?_ | refine G_block ?_ | refine G_exit rfl ?_)
    refine G_region ?_
    refine GO_q rfl rfl (ev_move rfl) ?_
    refine GO_q rfl rfl (ev_load rfl (by repeat' first | exact Ld.blk rfl | assumption | apply Ld.skip | apply Ld.app)) ?_
    refine GO_q rfl rfl (ev_move rfl) ?_
    refine GO_q rfl rfl (ev_move rfl) ?_
    refine GO_q rfl rfl (ev_move rfl) ?_
    (first | refine GO_q rfl rfl (ev_addN rfl rfl (by first | omega | (simp; done) | (simp; omega))) ?_ | refine GO_q rfl rfl (ev_add rfl rfl (by first | omega | (simp; done) | (simp; omega))) ?_)
    refine GO_q rfl rfl (ev_move rfl) ?_
    refine GO_q rfl rfl (ev_move rfl) ?_
    (first | refine GO_q rfl rfl (ev_addN rfl rfl (by first | omega | (simp; done) | (simp; omega))) ?_ | refine GO_q rfl rfl (ev_add rfl rfl (by first | omega | (simp; done) | (simp; omega))) ?_)
    refine GO_q rfl rfl (ev_slice3 (l := i) (h := i + m) (m := i + m) rfl rfl rfl rfl (by omega) (by omega) (by omega)) ?_
    rw [show i + m - i = m by omega, if_neg (show ¬ i + m = i by omega), Nat.mul_one]
    refine GO_yield rfl rfl rfl (Yld.frame [F, blk b2 33 [.slice (some ⟨b, o, none⟩) n c], blk b3 3 [.int .i64 5]] hyk (fun _ s => s)) ?_
    rintro q L' ⟨L1, ⟨rfl, s', hs', rfl⟩, rfl⟩
    refine GO_q rfl rfl (ev_not rfl) ?_
    refine GO_nil ?_
    (repeat first | refine G_seq ?_ | refine G_skip ?_ | refine G_endblk ?_ | refine G_block ?_ | refine G_exit rfl ?_)
    refine G_cond_f rfl rfl ?_
    (repeat first | refine G_seq ?_ | refine G_skip ?_ | refine G_endblk ?_ | refine G_block ?_ | refine G_exit rfl ?_)
    refine G_region ?_
    refine GO_q rfl rfl (ev_move rfl) ?_
    refine GO_q rfl rfl (ev_load rfl (by repeat' first | exact Ld.blk rfl | assumption | apply Ld.skip | apply Ld.app)) ?_
    (first | refine GO_q rfl rfl (ev_addN rfl rfl (by first | omega | (simp; done) | (simp; omega))) ?_ | refine GO_q rfl rfl (ev_add rfl rfl (by first | omega | (simp; done) | (simp; omega))) ?_)
    refine GO_q rfl rfl (ev_assign rfl) ?_
    refine GO_nil ?_
    (repeat first | refine G_seq ?_ | refine G_skip ?_ | refine G_endblk ?_ | refine G_block ?_ | refine G_exit rfl ?_)
    exact G_round (k + 1, s') ⟨by simp only; omega, hs'⟩ (by simp only; omega) ⟨rfl, rfl, rfl, by rw [hi]; rfl, trivial⟩ (by (repeat first | exact fun _ s => s | apply en_keep | apply en_drop | apply en_app) <;> fail)
  · (repeat first | refine G_seq ?_ | refine G_skip ?_ | refine G_endblk ?_ | refine G_block ?_ | refine G_exit rfl ?_)
    exact G_end (rs := []) (vs := []) (L' := blk b2 33 [.slice (some ⟨b, o, none⟩) n c] :: blk b3 3 [.int .i64 5] :: L k s) rfl .nil (by (repeat first | exact fun _ s => s | apply en_keep | apply en_drop | apply en_app) <;> fail) ⟨rfl, k, s, by omega, f1, f2, rfl⟩
end Go.Proofs.YtjnmpogolknkpaaGreat
/- Picking out of numbers, by cmp.Less: middles, nth, Median. -/
namespace Go.Proofs.YtjnmpogolknkpaaGreat
attribute [local irreducible] sat
set_option linter.unusedVariables false
set_option linter.unusedSimpArgs false
set_option maxRecDepth 100000

theorem SortOI_ctr (A : Option Addr) (n c : Nat) (l : List Int) (L : List HP) (hl : Rd L A n l) (hn : n ≤ 1000000) (hc : n ≤ c) :
    Ctr Tryz.prog 166 #[.slice A n c, .func (.func 133) #[] #[]] L fun v L' => Made 3 (srtO ltI l) L v L' := by
  rw [srtO_ltI]; exact SortI_ctr A n c l L hl hn hc
theorem middlesI_ctr (A : Option Addr) (n c : Nat) (l : List Int) (L : List HP) (hl : Rd L A n l) (h0 : 0 < n) (hn : n ≤ 1000000) (hc : n ≤ c) :
    Ctr Tryz.prog 165 #[.slice A n c, .func (.func 133) #[] #[]] L fun r L' => ∃ ms : List Int, ((∀ x ∈ ms, x ∈ l) ∧ 5 * ms.length < n + 5 ∧ n ≤ 5 * ms.length) ∧ MadeC 3 ms L r L' := by
  have h1 : l.length = n := hl.len (by decide)
  obtain ⟨b, o, rfl, _⟩ := hl.at_ h0
  refine Ctr_ofM (fn := Tryz.f165) (n := 24) Tryz.func165 rfl rfl rfl ?_
  intro g F hgb
  (repeat first | refine G_seq ?_ | refine G_skip ?_ | refine G_endblk ?_ | refine G_block ?_ | refine G_exit rfl ?_)
  refine G_region ?_
  refine GO_eff rfl rfl (eff_box rfl) ?_; rintro _ _ ⟨b3, rfl, rfl⟩
  refine GO_q rfl rfl (ev_assign rfl) ?_
  refine GO_nil ?_
  (repeat first | refine G_seq ?_ | refine G_skip ?_ | refine G_endblk ?_ | refine G_block ?_ | refine G_exit rfl ?_)
  refine G_region ?_
  refine GO_eff rfl rfl eff_alloc ?_; rintro _ _ ⟨b5, rfl, rfl⟩
  refine GO_nil ?_
  (repeat first | refine G_seq ?_ | refine G_skip ?_ | refine G_endblk ?_ | refine G_block ?_ | refine G_exit rfl ?_)
  refine G_region ?_
  refine GO_q rfl rfl (ev_move rfl) ?_
  refine GO_eff rfl rfl (eff_call rfl (Chunk_ctr (some ⟨b, o, none⟩) n c _)) ?_; rintro _ _ ⟨b8, b9, rfl, rfl⟩
  refine GO_nil ?_
  (repeat first | refine G_seq ?_ | refine G_skip ?_ | refine G_endblk ?_ | refine G_block ?_ | refine G_exit rfl ?_)
  refine G_heap (own.nil_ 3 1) ?_
  refine G_range1 (f := 169) (c1 := []) (c2 := [.pointer (some ⟨b8, 0, none⟩), .pointer (some ⟨b9, 0, none⟩)]) (post := fun p L1 => p = none ∧ ∃ s : Option Addr × Nat × List Int, ((∀ x ∈ s.2.2, x ∈ l) ∧ 5 * s.2.2.length < n + 5 ∧ n ≤ 5 * s.2.2.length) ∧ ((0 < s.2.2.length → ∃ b, s.1 = some ⟨b, 0, none⟩) ∧ s.2.2.length ≤ s.2.1 ∧ s.2.1 ≤ maxLen) ∧ L1 = own 3 1 s.1 s.2.2.length s.2.1 (flat s.2.2) :: blk b5 33 [.slice s.1 s.2.2.length s.2.1] :: F :: L) (by rw [← hgb]; rfl) rfl rfl ?_ ?_ ?_
  · intro y d R hR
    have hv := chunks_ctr (S := Option Addr × Nat × List Int) y b8 b9 b o n c l
      (fun k s => obj y (R .ready none) :: obj d (.deferred (some [])) :: own 3 1 s.1 s.2.2.length s.2.1 (flat s.2.2) :: blk b5 33 [.slice s.1 s.2.2.length s.2.1] :: blk b3 69 [.func (.func 133) #[] #[]] :: F :: L)
      (fun k s => s.2.2.length = k ∧ (∀ x ∈ s.2.2, x ∈ l) ∧ (0 < s.2.2.length → ∃ b, s.1 = some ⟨b, 0, none⟩) ∧ s.2.2.length ≤ s.2.1 ∧ s.2.1 ≤ maxLen)
      (fun k s _ => hl.skip.skip.skip.skip.skip.skip) hn hc ?_ (none, 0, []) ⟨rfl, by simp, fun h => absurd h (Nat.lt_irrefl 0), Nat.le_refl _, Nat.zero_le _⟩
    · refine (Ctr.pre (by (repeat first | exact en_refl | (apply en_blk; focus ((repeat' first | exact Pick.here | apply Pick.skip | apply Pick.app); done); focus rfl) | (apply en_own; focus ((repeat' first | exact Pick.here | apply Pick.skip | apply Pick.app); done); focus rfl) | (apply en_pick; focus ((repeat' first | exact Pick.here | apply Pick.skip | apply Pick.app); done)) | apply en_drop | apply en_app) <;> fail) hv).post' ?_
      rintro v L' hm ⟨rfl, k, s, k1, k2, ⟨hs1, hs2, hs3⟩, rfl⟩ hsat
      refine ⟨_, ⟨.ready, none, _, (by decide), ⟨rfl, s, ⟨hs2, by omega, by omega⟩, hs3, rfl⟩, rfl⟩, ?_⟩
      revert hm
      exact (by (repeat first | exact en_refl | (apply en_blk; focus ((repeat' first | exact Pick.here | apply Pick.skip | apply Pick.app); done); focus rfl) | (apply en_own; focus ((repeat' first | exact Pick.here | apply Pick.skip | apply Pick.app); done); focus rfl) | (apply en_pick; focus ((repeat' first | exact Pick.here | apply Pick.skip | apply Pick.app); done)) | apply en_drop | apply en_app) <;> fail)
    · rintro k ⟨B, e, ms⟩ hk ⟨i1, i2, i3, i4, i5⟩
      simp only at i1 i2 i3 i4 i5
      dsimp only
      obtain ⟨i, hi⟩ : ∃ i, i = 5 * k := ⟨_, rfl⟩
      obtain ⟨m, hm⟩ : ∃ m, m = min 5 (n - i) := ⟨_, rfl⟩
      rw [← hi] at hk ⊢
      rw [← hm]
      have hd0 := hl.drop (k := i) (c := c) (by omega) hc
      rw [if_neg (by omega)] at hd0
      have hg : Rd L (some ⟨b, o + i, none⟩) m ((l.drop i).take m) := by
        have h9 : Rd L (some ⟨b, o + i * 1, none⟩) m ((l.drop i).take m) := hd0.take (k := m) (by omega)
        rwa [Nat.mul_one] at h9
      have hgl : ((l.drop i).take m).length = m := hg.len (by decide)
      have hgm : ∀ x ∈ (l.drop i).take m, x ∈ l := fun x hx => List.mem_of_mem_drop (List.mem_of_mem_take hx)
      generalize (l.drop i).take m = gs at *
      refine hR (ι := Unit) (τ := fun _ => [(3, .pointer (some ⟨b3, 0, none⟩)), (5, .pointer (some ⟨b5, 0, none⟩)), (6, .slice (some ⟨b, o + i, none⟩) m m)]) (M := fun _ => obj d (.deferred (some [])) :: own 3 1 B ms.length e (flat ms) :: blk b5 33 [.slice B ms.length e] :: blk b3 69 [.func (.func 133) #[] #[]] :: F :: L) (Fy := fun _ => True) ?_ ?_
      · intro g F' _ _
        (repeat first | refine G_seq ?_ | refine G_skip ?_ | refine G_endblk ?_ | refine G_block ?_ | refine G_exit rfl ?_)
        refine G_region ?_
        refine GO_q rfl rfl (ev_assign rfl) ?_
        refine GO_nil ?_
        exact G_rndStart () trivial ⟨rfl, rfl, rfl, trivial⟩ (by (repeat first | exact fun _ s => s | apply en_keep | apply en_drop | apply en_app) <;> fail)
      · intro g F' _ _ _ _
        have hsl : (srtO ltI gs).length = m := by rw [srtO_length, hgl]
        have hx : (srtO ltI gs)[m / 2]? = some (srtO ltI gs)[m / 2] := List.getElem?_eq_getElem (by omega)
        have hxm : (srtO ltI gs)[m / 2] ∈ l := hgm _ ((srtO_perm gs).subset (List.getElem_mem _))
        generalize (srtO ltI gs)[m / 2] = x at *
        (repeat first | refine G_seq ?_ | refine G_skip ?_ | refine G_endblk ?_ | refine G_block ?_ | refine G_exit rfl ?_)
        (repeat first | refine G_seq ?_ | refine G_skip ?_ | refine G_endblk ?_ | refine G_block ?_ | refine G_exit rfl ?_)
        refine G_region ?_
        refine GO_q rfl rfl (ev_move rfl) ?_
        refine GO_q rfl rfl (ev_load rfl (by repeat' first | exact Ld.blk rfl | assumption | apply Ld.skip | apply Ld.app)) ?_
        refine GO_eff rfl rfl (eff_call rfl ((SortOI_ctr (some ⟨b, o + i, none⟩) m m gs _ (by repeat' first | exact Rc.blk rfl | assumption | apply Rd.skip | apply Rd.app) (by omega) (Nat.le_refl _)))) ?_; rintro _ _ ⟨C, c2, rfl, hC, rfl⟩
        refine GO_q rfl rfl (ev_assign rfl) ?_
        refine GO_nil ?_
        rw [hsl] at hC ⊢
        obtain ⟨cb, rfl⟩ := hC (by omega)
        have hld : ∀ L', Ld (own 3 1 (some ⟨cb, 0, none⟩) m c2 (flat (srtO ltI gs)) :: L') ⟨cb, 0 + (m / 2) * 1, none⟩ (.int .i64 x) := fun L' => ld_ownI hsl hx L'
        generalize srtO ltI gs = ss at *
        (repeat first | refine G_seq ?_ | refine G_skip ?_ | refine G_endblk ?_ | refine G_block ?_ | refine G_exit rfl ?_)
        refine G_draw (.q 0 (.q 1 (.q 2 (.q 3 (.q 4 (.q 5 (.q 6 (.e 7 (.e 8 (.e 9 .nil)))))))))) (by kernel_rfl) (by kernel_rfl) ?_
        refine RS_q rndB_noPanic rfl rfl rfl rfl (ev_load rfl (by repeat' first | exact Ld.blk rfl | assumption | apply Ld.skip | apply Ld.app)) ?_
        refine RS_m rndB_noPanic rfl rfl rfl rfl (ev_move rfl) ?_
        refine RS_m rndB_noPanic rfl rfl rfl rfl (ev_move rfl) ?_
        refine RS_q rndB_noPanic rfl rfl rfl rfl (ev_len rfl) ?_
        (first | refine RS_m rndB_noPanic rfl rfl rfl rfl (ev_quoN (q := 2) rfl rfl (by first | omega | (simp; done) | (simp; omega)) (by first | omega | (simp; done) | (simp; omega))) ?_ | refine RS_m rndB_noPanic rfl rfl rfl rfl (ev_quo rfl rfl (by first | omega | (simp; done) | (simp; omega)) (by first | omega | (simp; done) | (simp; omega)) (by first | omega | (simp; done) | (simp; omega))) ?_)
        (first | refine RS_m rndB_noPanic rfl rfl rfl rfl (ev_indexAddrN rfl rfl (by first | omega | (simp; done) | (simp; omega))) ?_ | refine RS_m rndB_noPanic rfl rfl rfl rfl (ev_indexAddr rfl rfl (by first | omega | (simp; done) | (simp; omega)) (by first | omega | (simp; done) | (simp; omega))) ?_)
        refine RS_q rndB_noPanic rfl rfl rfl rfl (ev_load rfl (by repeat' first | exact hld _ | apply Ld.skip)) ?_
        refine RS_e (RE_eff rfl rfl rfl (eff_buildSlice1 (by rfl) rfl rfl) ?_); rintro _ _ ⟨b21, rfl, rfl⟩; refine ⟨_, fun _ s => s, (by first | ((repeat first | exact fun _ s => s | apply en_keep | apply en_drop | apply en_app) <;> fail) | ((repeat first | exact en_refl | (apply en_blk; focus ((repeat' first | exact Pick.here | apply Pick.skip | apply Pick.app); done); focus rfl) | (apply en_own; focus ((repeat' first | exact Pick.here | apply Pick.skip | apply Pick.app); done); focus rfl) | (apply en_pick; focus ((repeat' first | exact Pick.here | apply Pick.skip | apply Pick.app); done)) | apply en_drop | apply en_app) <;> fail)), ?_⟩
        refine RS_e (RE_cmp (by kernel_rfl) rfl rfl rfl (eff_append rfl rfl (by repeat' first | exact Pick.here | apply Pick.skip) (by repeat' first | exact Rc.blk rfl | assumption | apply Rc.skip) (one_all rfl) (by rfl) (by decide) (by first | omega | (simp; done) | (simp; omega)) (by first | omega | (simp; done) | (simp; omega))) ?_); rintro _ _ ⟨A22, c22, rfl, hc22, hm22, hn22, rfl⟩
        refine RS_e (RE_last (by kernel_rfl) rfl rfl rfl (eff_store rfl rfl rfl (by repeat' first | exact Upd.here rfl | apply Upd.skip | apply Upd.app)) ?_); rintro _ _ ⟨rfl, rfl⟩
        (repeat first | refine G_seq ?_ | refine G_skip ?_ | refine G_endblk ?_ | refine G_block ?_ | refine G_exit rfl ?_)
        exact G_rndEnd (obj d (.deferred (some [])) :: own 3 1 A22 (ms ++ [x]).length c22 (flat (ms ++ [x])) :: blk b5 33 [.slice A22 (ms ++ [x]).length c22] :: blk b3 69 [.func (.func 133) #[] #[]] :: F :: L) ⟨rfl, (A22, c22, ms ++ [x]), ⟨by simp only [List.length_append, List.length_singleton, i1], fun z hz => (List.mem_append.1 hz).elim (i2 z) (fun h => by simp at h; exact h ▸ hxm), by simp only [List.length_append, List.length_singleton]; exact fun _ => hn22 (by omega), by simp only [List.length_append, List.length_singleton]; exact hc22, hm22⟩, rfl⟩ (by
          rw [List.length_append, ← flat_snoc]
          exact (by (repeat first | exact en_refl | (apply en_blk; focus ((repeat' first | exact Pick.here | apply Pick.skip | apply Pick.app); done); focus rfl) | (apply en_own; focus ((repeat' first | exact Pick.here | apply Pick.skip | apply Pick.app); done); focus rfl) | (apply en_pick; focus ((repeat' first | exact Pick.here | apply Pick.skip | apply Pick.app); done)) | apply en_drop | apply en_app) <;> fail))
  · rintro d L1 ⟨-, ⟨B, e, ms⟩, hms, ⟨i1, i2, i3⟩, rfl⟩
    simp only at hms i1 i2 i3
    dsimp only
    (repeat first | refine G_seq ?_ | refine G_skip ?_ | refine G_endblk ?_ | refine G_block ?_ | refine G_exit rfl ?_)
    refine G_region ?_
    refine GO_q rfl rfl (ev_load rfl (by repeat' first | exact Ld.blk rfl | assumption | apply Ld.skip | apply Ld.app)) ?_
    refine GO_q rfl rfl (ev_assign rfl) ?_
    refine GO_nil ?_
    (repeat first | refine G_seq ?_ | refine G_skip ?_ | refine G_endblk ?_ | refine G_block ?_ | refine G_exit rfl ?_)
    exact G_retM [d] rfl (by rw [← hgb]; rfl) rfl (.tmp rfl .nil) (M := own 3 1 B ms.length e (flat ms) :: blk b5 33 [.slice B ms.length e] :: F :: L) (L' := own 3 1 B ms.length e (flat ms) :: L) (by (repeat first | exact en_refl | (apply en_blk; focus ((repeat' first | exact Pick.here | apply Pick.skip | apply Pick.app); done); focus rfl) | (apply en_own; focus ((repeat' first | exact Pick.here | apply Pick.skip | apply Pick.app); done); focus rfl) | (apply en_pick; focus ((repeat' first | exact Pick.here | apply Pick.skip | apply Pick.app); done)) | apply en_drop | apply en_app) <;> fail) (by (repeat first | exact en_refl | (apply en_blk; focus ((repeat' first | exact Pick.here | apply Pick.skip | apply Pick.app); done); focus rfl) | (apply en_own; focus ((repeat' first | exact Pick.here | apply Pick.skip | apply Pick.app); done); focus rfl) | (apply en_pick; focus ((repeat' first | exact Pick.here | apply Pick.skip | apply Pick.app); done)) | apply en_drop | apply en_app) <;> fail) ⟨ms, hms, B, e, rfl, i1, i2, i3, rfl⟩
  · rintro d e L1 ⟨h, _⟩
    cases h
/-- The one that stands at k. -/
theorem nthI_ctr : ∀ (N : Nat) (A : Option Addr) (n c : Nat) (l : List Int) (k : Nat) (v : Int) (L : List HP) (_ : n ≤ N) (_ : Rd L A n l) (_ : n ≤ 1000000) (_ : n ≤ c) (_ : (srtO ltI l)[k]? = some v),
    Ctr Tryz.prog 162 #[.slice A n c, .int .i64 (k : Nat), .func (.func 133) #[] #[]] L fun r L' => r = .int .i64 v ∧ L' = L := by
  intro N
  induction N using Nat.strongRecOn with
  | _ N ih =>
  intro A n c l k v L hN hl hn hc hv
  have h1 : l.length = n := hl.len (by decide)
  refine Ctr_of (fn := Tryz.f162) (n := 61) Tryz.func162 rfl rfl rfl ?_
  intro g F
  (repeat first | refine G_seq ?_ | refine G_skip ?_ | refine G_endblk ?_ | refine G_block ?_ | refine G_exit rfl ?_)
  refine G_region ?_
  refine GO_q rfl rfl (ev_assign rfl) ?_
  refine GO_nil ?_
  (repeat first | refine G_seq ?_ | refine G_skip ?_ | refine G_endblk ?_)
  refine G_cut (ι := Option Addr × Nat × List Int × Nat × List HP) (fun x => [(0, .slice x.1 x.2.2.1.length x.2.1), (1, .int .i64 (x.2.2.2.1 : Nat)), (2, .func (.func 133) #[] #[])]) (fun x => x.2.2.2.2 ++ F :: L) (fun x => Rd (x.2.2.2.2 ++ F :: L) x.1 x.2.2.1.length x.2.2.1 ∧ x.2.2.1.length ≤ x.2.1 ∧ x.2.2.1.length ≤ n ∧ (srtO ltI x.2.2.1)[x.2.2.2.1]? = some v) ?_ ?_
  · (repeat first | refine G_seq ?_ | refine G_skip ?_ | refine G_endblk ?_ | refine G_block ?_ | refine G_exit rfl ?_)
    refine G_loop (ι := Option Addr × Nat × List Int × Nat × List HP) (fun x => [(0, .slice x.1 x.2.2.1.length x.2.1), (1, .int .i64 (x.2.2.2.1 : Nat)), (2, .func (.func 133) #[] #[])]) (fun x => x.2.2.2.2 ++ F :: L) (fun x => Rd (x.2.2.2.2 ++ F :: L) x.1 x.2.2.1.length x.2.2.1 ∧ x.2.2.1.length ≤ x.2.1 ∧ x.2.2.1.length ≤ n ∧ (srtO ltI x.2.2.1)[x.2.2.2.1]? = some v) (fun x => x.2.2.1.length) (A, c, l, k, []) ⟨by simp only [List.nil_append]; rw [h1]; exact hl.skip, by simp only; omega, by simp only; omega, hv⟩ ⟨by simp only; rw [h1]; rfl, rfl, rfl, trivial⟩ (by (repeat first | exact fun _ s => s | apply en_keep | apply en_drop | apply en_app) <;> fail) ?_
    rintro ⟨A, c, l, k, X⟩ ⟨f1, f2, f3, f4⟩
    simp only at f1 f2 f3 f4
    dsimp only
    clear hl hc hv h1
    have hk : k < l.length := by
      rcases Nat.lt_or_ge k l.length with h | h
      · exact h
      · rw [List.getElem?_eq_none (by rw [srtO_length]; exact h)] at f4; cases f4
    (repeat first | refine G_seq ?_ | refine G_skip ?_ | refine G_endblk ?_ | refine G_block ?_ | refine G_exit rfl ?_)
    refine G_region ?_
    refine GO_q rfl rfl (ev_move rfl) ?_
    refine GO_q rfl rfl (ev_len rfl) ?_
    refine GO_q rfl rfl (ev_gtr rfl rfl) ?_
    refine GO_nil ?_
    (repeat first | refine G_seq ?_ | refine G_skip ?_ | refine G_endblk ?_ | refine G_block ?_ | refine G_exit rfl ?_)
    refine G_cond rfl (fun q1 => ?_) (fun q1 => ?_)
    · (repeat first | refine G_seq ?_ | refine G_skip ?_ | refine G_endblk ?_ | refine G_block ?_ | refine G_exit rfl ?_)
      refine G_region ?_
      refine GO_q rfl rfl (ev_move rfl) ?_
      refine GO_q rfl rfl (ev_move rfl) ?_
      refine GO_eff rfl rfl (eff_call rfl (middlesI_ctr A l.length c l _ (by repeat' first | exact Rc.blk rfl | assumption | apply Rd.skip | apply Rd.app) (by omega) (by omega) f2)) ?_; rintro _ _ ⟨ms, ⟨m1, m2, m3⟩, B, e, rfl, i1, i2, i3, rfl⟩
      refine GO_q rfl rfl (ev_assign rfl) ?_
      refine GO_nil ?_
      have hml : ms.length / 2 < ms.length := by omega
      have hx : (srtO ltI ms)[ms.length / 2]? = some ((srtO ltI ms)[ms.length / 2]'(by rw [srtO_length]; exact hml)) := List.getElem?_eq_getElem _
      generalize (srtO ltI ms)[ms.length / 2]'(by rw [srtO_length]; exact hml) = x at hx
      have hxl : x ∈ l := m1 x (nthO_mem hx)
      have p1 := partsO_length sto_ltI x l
      have p2 := likeO_pos hxl
      (repeat first | refine G_seq ?_ | refine G_skip ?_ | refine G_endblk ?_ | refine G_block ?_ | refine G_exit rfl ?_)
      refine G_region ?_
      refine GO_q rfl rfl (ev_move rfl) ?_
      refine GO_q rfl rfl (ev_move rfl) ?_
      refine GO_q rfl rfl (ev_move rfl) ?_
      refine GO_q rfl rfl (ev_len rfl) ?_
      (first | refine GO_q rfl rfl (ev_quoN (q := 2) rfl rfl (by first | omega | (simp; done) | (simp; omega)) (by first | omega | (simp; done) | (simp; omega))) ?_ | refine GO_q rfl rfl (ev_quo rfl rfl (by first | omega | (simp; done) | (simp; omega)) (by first | omega | (simp; done) | (simp; omega)) (by first | omega | (simp; done) | (simp; omega))) ?_)
      refine GO_q rfl rfl (ev_move rfl) ?_
      refine GO_eff rfl rfl (eff_call rfl (ih ms.length (by omega) B ms.length e ms (ms.length / 2) x _ (Nat.le_refl _) (Rc.own (flat_length _) i1) (by omega) i2 hx)) ?_; rintro _ _ ⟨rfl, rfl⟩
      refine GO_q rfl rfl (ev_move rfl) ?_
      refine GO_eff rfl rfl (eff_call rfl (partsI_ctr A l.length c l x _ (by repeat' first | exact Rc.blk rfl | assumption | apply Rd.skip | apply Rd.app) (by omega))) ?_; rintro _ _ ⟨s, rfl, ok, rfl⟩
      refine GO_q rfl rfl (ev_move rfl) ?_
      refine GO_q rfl rfl (ev_extract rfl rfl) ?_
      refine GO_q rfl rfl (ev_extract rfl rfl) ?_
      refine GO_q rfl rfl (ev_extract rfl rfl) ?_
      refine GO_q rfl rfl (ev_assign rfl) ?_
      refine GO_q rfl rfl (ev_assign rfl) ?_
      refine GO_q rfl rfl (ev_assign rfl) ?_
      refine GO_nil ?_
      have n1 : ∀ h, _ := nthO_low (k := k) sto_ltI x l
      have n2 : ∀ h h', _ := nthO_like (k := k) sto_ltI x l
      have n3 : ∀ h, _ := nthO_high (k := k) sto_ltI x l
      have hli : ∀ z ∈ likeO x l, z = x := fun z hz => likeO_eq hz
      generalize lowO ltI x l = lo at *
      generalize likeO x l = li at *
      generalize highO ltI x l = hi at *
      (repeat first | refine G_seq ?_ | refine G_skip ?_ | refine G_endblk ?_ | refine G_block ?_ | refine G_exit rfl ?_)
      refine G_region ?_
      refine GO_q rfl rfl (ev_move rfl) ?_
      refine GO_q rfl rfl (ev_move rfl) ?_
      refine GO_q rfl rfl (ev_len rfl) ?_
      (first | refine GO_q rfl rfl (ev_lssN rfl rfl) ?_ | refine GO_q rfl rfl (ev_lss rfl rfl) ?_)
      refine GO_q rfl rfl (ev_assign rfl) ?_
      refine GO_nil ?_
      (repeat first | refine G_seq ?_ | refine G_skip ?_ | refine G_endblk ?_ | refine G_block ?_ | refine G_exit rfl ?_)
      refine G_cond rfl (fun q2 => ?_) (fun q2 => ?_)
      · (repeat first | refine G_seq ?_ | refine G_skip ?_ | refine G_endblk ?_ | refine G_block ?_ | refine G_exit rfl ?_)
        refine G_region ?_
        refine GO_q rfl rfl (ev_move rfl) ?_
        refine GO_q rfl rfl (ev_assign rfl) ?_
        refine GO_nil ?_
        (repeat first | refine G_seq ?_ | refine G_skip ?_ | refine G_endblk ?_ | refine G_block ?_ | refine G_exit rfl ?_)
        exact G_round (s.A1, s.c1, lo, k, [own 3 1 s.A1 lo.length s.c1 (flat lo)]) ⟨Rc.own (flat_length _) ok.h1, ok.k1, by simp only; omega, by simp only; rw [← n1 (by omega)]; exact f4⟩ (by simp only; omega) ⟨rfl, rfl, rfl, trivial⟩ (by (repeat first | exact en_refl | (apply en_blk; focus ((repeat' first | exact Pick.here | apply Pick.skip | apply Pick.app); done); focus rfl) | (apply en_own; focus ((repeat' first | exact Pick.here | apply Pick.skip | apply Pick.app); done); focus rfl) | (apply en_pick; focus ((repeat' first | exact Pick.here | apply Pick.skip | apply Pick.app); done)) | apply en_drop | apply en_app) <;> fail)
      · (repeat first | refine G_seq ?_ | refine G_skip ?_ | refine G_endblk ?_ | refine G_block ?_ | refine G_exit rfl ?_)
        refine G_region ?_
        refine GO_q rfl rfl (ev_move rfl) ?_
        refine GO_q rfl rfl (ev_move rfl) ?_
        refine GO_q rfl rfl (ev_len rfl) ?_
        refine GO_q rfl rfl (ev_move rfl) ?_
        refine GO_q rfl rfl (ev_len rfl) ?_
        (first | refine GO_q rfl rfl (ev_addN rfl rfl (by first | omega | (simp; done) | (simp; omega))) ?_ | refine GO_q rfl rfl (ev_add rfl rfl (by first | omega | (simp; done) | (simp; omega))) ?_)
        (first | refine GO_q rfl rfl (ev_lssN rfl rfl) ?_ | refine GO_q rfl rfl (ev_lss rfl rfl) ?_)
        refine GO_q rfl rfl (ev_assign rfl) ?_
        refine GO_nil ?_
        (repeat first | refine G_seq ?_ | refine G_skip ?_ | refine G_endblk ?_ | refine G_block ?_ | refine G_exit rfl ?_)
        refine G_cond rfl (fun q3 => ?_) (fun q3 => ?_)
        · obtain ⟨lb, hb⟩ := ok.h2 p2
          have e9 := n2 (by omega) (by omega)
          rw [f4] at e9
          have g0 : li[0]? = some x := by
            rw [List.getElem?_eq_getElem p2, hli _ (List.getElem_mem p2)]
          cases e9
          obtain ⟨sA1, sc1, sA2, sc2, sA3, sc3⟩ := s
          simp only at hb
          subst hb
          dsimp only
          have hld : ∀ L', Ld (own 3 1 (some ⟨lb, 0, none⟩) li.length sc2 (flat li) :: L') ⟨lb, 0 + 0 * 1, none⟩ (.int .i64 v) := fun L' => ld_ownI rfl g0 L'
          (repeat first | refine G_seq ?_ | refine G_skip ?_ | refine G_endblk ?_ | refine G_block ?_ | refine G_exit rfl ?_)
          refine G_region ?_
          refine GO_q rfl rfl (ev_move rfl) ?_
          (first | refine GO_q rfl rfl (ev_indexAddrN rfl rfl (by first | omega | (simp; done) | (simp; omega))) ?_ | refine GO_q rfl rfl (ev_indexAddr rfl rfl (by first | omega | (simp; done) | (simp; omega)) (by first | omega | (simp; done) | (simp; omega))) ?_)
          refine GO_q rfl rfl (ev_load rfl (by repeat' first | exact hld _ | apply Ld.skip)) ?_
          refine GO_q rfl rfl (ev_assign rfl) ?_
          refine GO_nil ?_
          (repeat first | refine G_seq ?_ | refine G_skip ?_ | refine G_endblk ?_ | refine G_block ?_ | refine G_exit rfl ?_)
          refine G_ret rfl (.tmp rfl .nil) ?_ ⟨rfl, rfl⟩
          exact fun h q => en_app en_refl h q.tail.tail.tail.tail
        · (repeat first | refine G_seq ?_ | refine G_skip ?_ | refine G_endblk ?_ | refine G_block ?_ | refine G_exit rfl ?_)
          refine G_region ?_
          refine GO_q rfl rfl (ev_move rfl) ?_
          refine GO_q rfl rfl (ev_move rfl) ?_
          refine GO_q rfl rfl (ev_move rfl) ?_
          refine GO_q rfl rfl (ev_len rfl) ?_
          (first | refine GO_q rfl rfl (ev_subN rfl rfl (by first | omega | (simp; done) | (simp; omega))) ?_ | refine GO_q rfl rfl (ev_sub rfl rfl (by first | omega | (simp; done) | (simp; omega))) ?_)
          refine GO_q rfl rfl (ev_move rfl) ?_
          refine GO_q rfl rfl (ev_len rfl) ?_
          (first | refine GO_q rfl rfl (ev_subN rfl rfl (by first | omega | (simp; done) | (simp; omega))) ?_ | refine GO_q rfl rfl (ev_sub rfl rfl (by first | omega | (simp; done) | (simp; omega))) ?_)
          refine GO_q rfl rfl (ev_assign rfl) ?_
          refine GO_q rfl rfl (ev_assign rfl) ?_
          refine GO_nil ?_
          (repeat first | refine G_seq ?_ | refine G_skip ?_ | refine G_endblk ?_ | refine G_block ?_ | refine G_exit rfl ?_)
          exact G_round (s.A3, s.c3, hi, k - lo.length - li.length, [own 3 1 s.A3 hi.length s.c3 (flat hi)]) ⟨Rc.own (flat_length _) ok.h3, ok.k3, by simp only; omega, by simp only; rw [← n3 (by omega)]; exact f4⟩ (by simp only; omega) ⟨rfl, by simp only; rw [show ((k - lo.length - li.length : Nat) : Int) = (k : Int) - (lo.length : Int) - (li.length : Int) by omega]; rfl, rfl, trivial⟩ (by (repeat first | exact en_refl | (apply en_blk; focus ((repeat' first | exact Pick.here | apply Pick.skip | apply Pick.app); done); focus rfl) | (apply en_own; focus ((repeat' first | exact Pick.here | apply Pick.skip | apply Pick.app); done); focus rfl) | (apply en_pick; focus ((repeat' first | exact Pick.here | apply Pick.skip | apply Pick.app); done)) | apply en_drop | apply en_app) <;> fail)
    · (repeat first | refine G_seq ?_ | refine G_skip ?_ | refine G_endblk ?_ | refine G_block ?_ | refine G_exit rfl ?_)
      exact G_inv (A, c, l, k, X) ⟨f1, f2, f3, f4⟩ ⟨rfl, rfl, rfl, trivial⟩ (by (repeat first | exact fun _ s => s | apply en_keep | apply en_drop | apply en_app) <;> fail)
  · rintro ⟨A, c, l, k, X⟩ ⟨f1, f2, f3, f4⟩
    simp only at f1 f2 f3 f4
    dsimp only
    clear hl hc hv h1
    have hk : k < l.length := by
      rcases Nat.lt_or_ge k l.length with h | h
      · exact h
      · rw [List.getElem?_eq_none (by rw [srtO_length]; exact h)] at f4; cases f4
    have hsl : (srtO ltI l).length = l.length := srtO_length l
    (repeat first | refine G_seq ?_ | refine G_skip ?_ | refine G_endblk ?_ | refine G_block ?_ | refine G_exit rfl ?_)
    refine G_region ?_
    refine GO_q rfl rfl (ev_move rfl) ?_
    refine GO_q rfl rfl (ev_move rfl) ?_
    refine GO_eff rfl rfl (eff_call rfl (SortOI_ctr A l.length c l _ (by repeat' first | exact Rc.blk rfl | assumption | apply Rd.skip | apply Rd.app) (by omega) f2)) ?_; rintro _ _ ⟨B, e, rfl, hB, rfl⟩
    refine GO_q rfl rfl (ev_move rfl) ?_
    obtain ⟨lb, rfl⟩ := hB (by omega)
    refine GO_q rfl rfl (ev_indexAddrN rfl rfl (by omega)) ?_
    refine GO_q rfl rfl (ev_load rfl (ld_ownI rfl f4 _)) ?_
    refine GO_q rfl rfl (ev_assign rfl) ?_
    refine GO_nil ?_
    (repeat first | refine G_seq ?_ | refine G_skip ?_ | refine G_endblk ?_ | refine G_block ?_ | refine G_exit rfl ?_)
    exact G_ret rfl (.tmp rfl .nil) (fun h q => en_app en_refl h q.tail) ⟨rfl, rfl⟩
/-- The one that stands at k; there is one. -/
theorem pickI_ctr (A : Option Addr) (n c : Nat) (l : List Int) (k : Nat) (v : Int) (L : List HP) (hl : Rd L A n l) (hn : n ≤ 1000000) (hc : n ≤ c) (hv : (srtO ltI l)[k]? = some v) :
    Ctr Tryz.prog 154 #[.slice A n c, .int .i64 (k : Nat), .func (.func 133) #[] #[]] L fun r L' => r = .tuple #[.int .i64 v, .bool true] ∧ L' = L := by
  have h1 : l.length = n := hl.len (by decide)
  have hk : k < n := by
    rcases Nat.lt_or_ge k n with h | h
    · exact h
    · rw [List.getElem?_eq_none (by rw [srtO_length]; omega)] at hv; cases hv
  have p2 := likeO_pos (nthO_mem hv)
  have e1 := midO_low sto_ltI hv
  have e2 := midO_like sto_ltI hv
  have hli : ∀ z ∈ likeO v l, z = v := fun z hz => likeO_eq hz
  have g0 : (likeO v l)[k - (lowO ltI v l).length]? = some v := by
    have h9 : k - (lowO ltI v l).length < (likeO v l).length := by omega
    rw [List.getElem?_eq_getElem h9, hli _ (List.getElem_mem h9)]
  refine Ctr_of (fn := Tryz.f154) (n := 40) Tryz.func154 rfl rfl rfl ?_
  intro g F
  (repeat first | refine G_seq ?_ | refine G_skip ?_ | refine G_endblk ?_ | refine G_block ?_ | refine G_exit rfl ?_)
  refine G_region ?_
  refine GO_q rfl rfl (ev_assign rfl) ?_
  refine GO_q rfl rfl (ev_assign rfl) ?_
  refine GO_nil ?_
  (repeat first | refine G_seq ?_ | refine G_skip ?_ | refine G_endblk ?_ | refine G_block ?_ | refine G_exit rfl ?_)
  refine G_region ?_
  refine GO_q rfl rfl (ev_move rfl) ?_
  (first | refine GO_q rfl rfl (ev_lssN (q := 0) rfl rfl) ?_ | refine GO_q rfl rfl (ev_lss rfl rfl) ?_)
  refine GO_q rfl rfl (ev_move rfl) ?_
  refine GO_yes rfl rfl rfl (decide_eq_false (by omega)) ?_
  refine GO_q rfl rfl (ev_move rfl) ?_
  refine GO_yes rfl rfl rfl (decide_eq_false (by omega)) ?_
  refine GO_q rfl rfl (ev_move rfl) ?_
  refine GO_yes rfl rfl rfl (decide_eq_false (by omega)) ?_
  refine GO_q rfl rfl (ev_len rfl) ?_
  refine GO_yes rfl rfl rfl (decide_eq_false (by omega)) ?_
  refine GO_q rfl rfl (ev_geq rfl rfl) ?_
  refine GO_q rfl rfl (ev_pick_f rfl (decide_eq_false (by omega)) rfl) ?_
  refine GO_nil ?_
  (repeat first | refine G_seq ?_ | refine G_skip ?_ | refine G_endblk ?_ | refine G_block ?_ | refine G_exit rfl ?_)
  refine G_cond_f rfl (decide_eq_false (by omega)) ?_
  (repeat first | refine G_seq ?_ | refine G_skip ?_ | refine G_endblk ?_ | refine G_block ?_ | refine G_exit rfl ?_)
  refine G_region ?_
  refine GO_q rfl rfl (ev_move rfl) ?_
  refine GO_q rfl rfl (ev_move rfl) ?_
  refine GO_q rfl rfl (ev_move rfl) ?_
  refine GO_eff rfl rfl (eff_call rfl (nthI_ctr n A n c l k v _ (Nat.le_refl _) (by repeat' first | exact Rc.blk rfl | assumption | apply Rd.skip | apply Rd.app) hn hc hv)) ?_; rintro _ _ ⟨rfl, rfl⟩
  refine GO_q rfl rfl (ev_assign rfl) ?_
  refine GO_nil ?_
  (repeat first | refine G_seq ?_ | refine G_skip ?_ | refine G_endblk ?_ | refine G_block ?_ | refine G_exit rfl ?_)
  refine G_region ?_
  refine GO_q rfl rfl (ev_move rfl) ?_
  refine GO_q rfl rfl (ev_move rfl) ?_
  refine GO_q rfl rfl (ev_move rfl) ?_
  refine GO_eff rfl rfl (eff_call rfl (partsI_ctr A n c l v _ (by repeat' first | exact Rc.blk rfl | assumption | apply Rd.skip | apply Rd.app) hn)) ?_; rintro _ _ ⟨s, rfl, ok, rfl⟩
  refine GO_q rfl rfl (ev_move rfl) ?_
  refine GO_q rfl rfl (ev_extract rfl rfl) ?_
  refine GO_q rfl rfl (ev_extract rfl rfl) ?_
  refine GO_q rfl rfl (ev_extract rfl rfl) ?_
  refine GO_q rfl rfl (ev_assign rfl) ?_
  refine GO_q rfl rfl (ev_assign rfl) ?_
  refine GO_q rfl rfl (ev_assign rfl) ?_
  refine GO_nil ?_
  generalize lowO ltI v l = lo at *
  generalize likeO v l = li at *
  generalize highO ltI v l = hi at *
  obtain ⟨lb, hb⟩ := ok.h2 p2
  obtain ⟨sA1, sc1, sA2, sc2, sA3, sc3⟩ := s
  simp only at hb
  subst hb
  dsimp only
  obtain ⟨j, hj⟩ : ∃ j, k - lo.length = j := ⟨_, rfl⟩
  rw [hj] at g0
  have hjl : j < li.length := by omega
  have hld : ∀ L', Ld (own 3 1 (some ⟨lb, 0, none⟩) li.length sc2 (flat li) :: L') ⟨lb, 0 + j * 1, none⟩ (.int .i64 v) := fun L' => ld_ownI rfl g0 L'
  (repeat first | refine G_seq ?_ | refine G_skip ?_ | refine G_endblk ?_ | refine G_block ?_ | refine G_exit rfl ?_)
  refine G_region ?_
  refine GO_q rfl rfl (ev_move rfl) ?_
  refine GO_q rfl rfl (ev_move rfl) ?_
  refine GO_q rfl rfl (ev_move rfl) ?_
  refine GO_q rfl rfl (ev_len rfl) ?_
  refine GO_q rfl rfl (ev_subN rfl rfl (by omega)) ?_
  rw [hj]
  refine GO_q rfl rfl (ev_indexAddrN rfl rfl (by omega)) ?_
  refine GO_q rfl rfl (ev_load rfl (by repeat' first | exact hld _ | apply Ld.skip)) ?_
  refine GO_q rfl rfl (ev_assign rfl) ?_
  refine GO_q rfl rfl (ev_assign rfl) ?_
  refine GO_nil ?_
  (repeat first | refine G_seq ?_ | refine G_skip ?_ | refine G_endblk ?_ | refine G_block ?_ | refine G_exit rfl ?_)
  refine G_ret rfl (.tmp rfl (.tmp rfl .nil)) (by (repeat first | exact fun _ s => s | apply en_keep | apply en_drop | apply en_app) <;> fail) ⟨rfl, rfl⟩
theorem pickI0_ctr (A : Option Addr) (c : Nat) (L : List HP) : Ctr Tryz.prog 154 #[.slice A 0 c, .int .i64 0, .func (.func 133) #[] #[]] L fun r L' => r = .tuple #[.int .i64 0, .bool false] ∧ L' = L := by
  refine Ctr_of (fn := Tryz.f154) (n := 40) Tryz.func154 rfl rfl rfl ?_
  intro g F
  (repeat first | refine G_seq ?_ | refine G_skip ?_ | refine G_endblk ?_ | refine G_block ?_ | refine G_exit rfl ?_)
  refine G_region ?_
  refine GO_q rfl rfl (ev_assign rfl) ?_
  refine GO_q rfl rfl (ev_assign rfl) ?_
  refine GO_nil ?_
  (repeat first | refine G_seq ?_ | refine G_skip ?_ | refine G_endblk ?_ | refine G_block ?_ | refine G_exit rfl ?_)
  refine G_region ?_
  refine GO_q rfl rfl (ev_move rfl) ?_
  (first | refine GO_q rfl rfl (ev_lssN (q := 0) rfl rfl) ?_ | refine GO_q rfl rfl (ev_lss rfl rfl) ?_)
  refine GO_q rfl rfl (ev_move rfl) ?_
  refine GO_yes rfl rfl rfl (decide_eq_false (by omega)) ?_
  refine GO_q rfl rfl (ev_move rfl) ?_
  refine GO_yes rfl rfl rfl (decide_eq_false (by omega)) ?_
  refine GO_q rfl rfl (ev_move rfl) ?_
  refine GO_yes rfl rfl rfl (decide_eq_false (by omega)) ?_
  refine GO_q rfl rfl (ev_len rfl) ?_
  refine GO_yes rfl rfl rfl (decide_eq_false (by omega)) ?_
  refine GO_q rfl rfl (ev_geq rfl rfl) ?_
  refine GO_q rfl rfl (ev_pick_f rfl (decide_eq_false (by omega)) rfl) ?_
  refine GO_nil ?_
  (repeat first | refine G_seq ?_ | refine G_skip ?_ | refine G_endblk ?_ | refine G_block ?_ | refine G_exit rfl ?_)
  refine G_cond_t rfl rfl ?_
  (repeat first | refine G_seq ?_ | refine G_skip ?_ | refine G_endblk ?_ | refine G_block ?_ | refine G_exit rfl ?_)
  refine G_region ?_
  refine GO_q rfl rfl (ev_move rfl) ?_
  refine GO_q rfl rfl (ev_assign rfl) ?_
  refine GO_q rfl rfl (ev_assign rfl) ?_
  refine GO_nil ?_
  (repeat first | refine G_seq ?_ | refine G_skip ?_ | refine G_endblk ?_ | refine G_block ?_ | refine G_exit rfl ?_)
  refine G_ret rfl (.tmp rfl (.tmp rfl .nil)) (by (repeat first | exact fun _ s => s | apply en_keep | apply en_drop | apply en_app) <;> fail) ⟨rfl, rfl⟩
/-- pick.Median -/
theorem MedianI_ctr (A : Option Addr) (n c : Nat) (l : List Int) (v : Int) (L : List HP) (hl : Rd L A n l) (hn : n ≤ 1000000) (hc : n ≤ c) (hv : (srtO ltI l)[n / 2]? = some v) :
    Ctr Tryz.prog 132 #[.slice A n c, .func (.func 133) #[] #[]] L fun r L' => r = .tuple #[.int .i64 v, .bool true] ∧ L' = L := by
  refine Ctr_of (fn := Tryz.f132) (n := 14) Tryz.func132 rfl rfl rfl ?_
  intro g F
  (repeat first | refine G_seq ?_ | refine G_skip ?_ | refine G_endblk ?_ | refine G_block ?_ | refine G_exit rfl ?_)
  refine G_region ?_
  refine GO_q rfl rfl (ev_assign rfl) ?_
  refine GO_q rfl rfl (ev_assign rfl) ?_
  refine GO_nil ?_
  (repeat first | refine G_seq ?_ | refine G_skip ?_ | refine G_endblk ?_ | refine G_block ?_ | refine G_exit rfl ?_)
  refine G_region ?_
  refine GO_q rfl rfl (ev_move rfl) ?_
  refine GO_q rfl rfl (ev_move rfl) ?_
  refine GO_q rfl rfl (ev_len rfl) ?_
  (first | refine GO_q rfl rfl (ev_quoN (q := 2) rfl rfl (by first | omega | (simp; done) | (simp; omega)) (by first | omega | (simp; done) | (simp; omega))) ?_ | refine GO_q rfl rfl (ev_quo rfl rfl (by first | omega | (simp; done) | (simp; omega)) (by first | omega | (simp; done) | (simp; omega)) (by first | omega | (simp; done) | (simp; omega))) ?_)
  refine GO_q rfl rfl (ev_move rfl) ?_
  refine GO_eff rfl rfl (eff_call rfl (pickI_ctr A n c l (n / 2) v _ (by repeat' first | exact Rc.blk rfl | assumption | apply Rd.skip | apply Rd.app) hn hc hv)) ?_; rintro _ _ ⟨rfl, rfl⟩
  refine GO_q rfl rfl (ev_extract rfl rfl) ?_
  refine GO_q rfl rfl (ev_extract rfl rfl) ?_
  refine GO_q rfl rfl (ev_assign rfl) ?_
  refine GO_q rfl rfl (ev_assign rfl) ?_
  refine GO_nil ?_
  (repeat first | refine G_seq ?_ | refine G_skip ?_ | refine G_endblk ?_ | refine G_block ?_ | refine G_exit rfl ?_)
  refine G_ret rfl (.tmp rfl (.tmp rfl .nil)) (by (repeat first | exact fun _ s => s | apply en_keep | apply en_drop | apply en_app) <;> fail) ⟨rfl, rfl⟩
theorem MedianI0_ctr (A : Option Addr) (c : Nat) (L : List HP) : Ctr Tryz.prog 132 #[.slice A 0 c, .func (.func 133) #[] #[]] L fun r L' => r = .tuple #[.int .i64 0, .bool false] ∧ L' = L := by
  refine Ctr_of (fn := Tryz.f132) (n := 14) Tryz.func132 rfl rfl rfl ?_
  intro g F
  (repeat first | refine G_seq ?_ | refine G_skip ?_ | refine G_endblk ?_ | refine G_block ?_ | refine G_exit rfl ?_)
  refine G_region ?_
  refine GO_q rfl rfl (ev_assign rfl) ?_
  refine GO_q rfl rfl (ev_assign rfl) ?_
  refine GO_nil ?_
  (repeat first | refine G_seq ?_ | refine G_skip ?_ | refine G_endblk ?_ | refine G_block ?_ | refine G_exit rfl ?_)
  refine G_region ?_
  refine GO_q rfl rfl (ev_move rfl) ?_
  refine GO_q rfl rfl (ev_move rfl) ?_
  refine GO_q rfl rfl (ev_len rfl) ?_
  (first | refine GO_q rfl rfl (ev_quoN (q := 2) rfl rfl (by first | omega | (simp; done) | (simp; omega)) (by first | omega | (simp; done) | (simp; omega))) ?_ | refine GO_q rfl rfl (ev_quo rfl rfl (by first | omega | (simp; done) | (simp; omega)) (by first | omega | (simp; done) | (simp; omega)) (by first | omega | (simp; done) | (simp; omega))) ?_)
  refine GO_q rfl rfl (ev_move rfl) ?_
  refine GO_eff rfl rfl (eff_call rfl (pickI0_ctr A c _)) ?_; rintro _ _ ⟨rfl, rfl⟩
  refine GO_q rfl rfl (ev_extract rfl rfl) ?_
  refine GO_q rfl rfl (ev_extract rfl rfl) ?_
  refine GO_q rfl rfl (ev_assign rfl) ?_
  refine GO_q rfl rfl (ev_assign rfl) ?_
  refine GO_nil ?_
  (repeat first | refine G_seq ?_ | refine G_skip ?_ | refine G_endblk ?_ | refine G_block ?_ | refine G_exit rfl ?_)
  refine G_ret rfl (.tmp rfl (.tmp rfl .nil)) (by (repeat first | exact fun _ s => s | apply en_keep | apply en_drop | apply en_app) <;> fail) ⟨rfl, rfl⟩
end Go.Proofs.YtjnmpogolknkpaaGreat
/- num.Mid, by a walk. -/
namespace Go.Proofs.YtjnmpogolknkpaaGreat
open Go.RowKit
theorem ret_intM {k : IntKind} {a b : Int} (h : a = b) : Ending.returned (.int k a) = .returned (.int k b) := by rw [h]
theorem and_one_i64 (a : Int) : bits BinOp.and IntKind.i64 a 1 = a % 2 := by
  have e : (BitVec.ofInt 64 a &&& BitVec.ofInt 64 1).toNat = (a % 18446744073709551616).toNat % 2 := by
    rw [BitVec.toNat_and]
    rw [show (BitVec.ofInt 64 1).toNat = 1 from rfl, Nat.and_one_is_mod, BitVec.toNat_ofInt]
    rfl
  show IntKind.i64.wrap ((BitVec.ofInt 64 a &&& BitVec.ofInt 64 1).toNat : Int) = _
  rw [e, IntWalk.i64_in _ (by omega)]
  omega
theorem and_bits_i64 (a b : Int) : bits BinOp.and IntKind.i64 (a % 2) (b % 2) = (a % 2) * (b % 2) := by
  rcases Int.emod_two_eq a with ha | ha <;> rcases Int.emod_two_eq b with hb | hb <;> rw [ha, hb] <;> rfl
set_option maxHeartbeats 400000 in
theorem mid_any (a b : Int) (ha : -9223372036854775808 ≤ a ∧ a ≤ 9223372036854775807) (hb : -9223372036854775808 ≤ b ∧ b ≤ 9223372036854775807) (w : World) :
    Calls Tryz.prog 70 #[.int .i64 a, .int .i64 b] w fun e w' => e = .returned (.int .i64 ((a + b) / 2)) ∧ w = w' := by
  obtain ⟨a1, a2⟩ := ha
  obtain ⟨b1, b2⟩ := hb
  go_enter Tryz.func70, Tryz.ntmps70
  go_wp2
  go_ret
  refine ⟨ret_intM ?_, rfl⟩
  rw [and_one_i64, and_one_i64, and_bits_i64]
  rcases Int.emod_two_eq a with ha | ha <;> rcases Int.emod_two_eq b with hb | hb <;> rw [ha, hb, IntWalk.wrap64_in _ (by omega)] <;> omega
end Go.Proofs.YtjnmpogolknkpaaGreat
/- A tree of middles: note, keep. -/
namespace Go.Proofs.YtjnmpogolknkpaaGreat
attribute [local irreducible] sat
set_option linter.unusedVariables false
set_option linter.unusedSimpArgs false
set_option maxRecDepth 100000

/-- A node that lies open. -/
def itM (b : Nat) (mid : Int) (A : Option Addr) (c : Nat) (p : List Pt) (C : Option Addr) (d : Nat) (q : List Pt) (m : Nat) (lo hi : IT) (L : List HP) : List HP := blk b 92 (inC mid A p.length c C q.length d lo.addr hi.addr m) :: own 24 3 A p.length c (flat p) :: own 24 3 C q.length d (flat q) :: itH lo :: itH hi :: L
structure Fit (A : Option Addr) (c : Nat) (p : List Pt) (C : Option Addr) (d : Nat) (q : List Pt) (lo hi : IT) : Prop where
  p : OF A p.length c
  q : OF C q.length d
  lo : lo.fit
  hi : hi.fit
theorem itM_in {A : Option Addr} {c : Nat} {p : List Pt} {C : Option Addr} {d : Nat} {q : List Pt} {lo hi : IT} (f : Fit A c p C d q lo hi) (b : Nat) (mid : Int) (m : Nat) (L : List HP) : IIn (itM b mid A c p C d q m lo hi L) (.node b mid A c p C d q m lo hi) :=
  ⟨⟨f.p, f.q⟩, LdN.blk rfl, Rd.skip (Rc.own (flat_length _) f.p.a), Rd.skip (Rd.skip (Rc.own (flat_length _) f.q.a)), (itH_in lo _ f.lo).skip.skip.skip, (itH_in hi _ f.hi).skip.skip.skip.skip⟩
/-- A part of a tree that was made. -/
def MadeI (l : List Pt) (L : List HP) (v : Value) (L' : List HP) : Prop := ∃ T : IT, (T.ok ∧ T.fit ∧ T.spans.Perm l) ∧ v = .pointer T.addr ∧ L' = itH T :: L
section
variable {A : Option Addr} {c : Nat} {p : List Pt} {C : Option Addr} {d : Nat} {q : List Pt} {lo hi : IT}
theorem note_ctr (f : Fit A c p C d q lo hi) (b : Nat) (mid : Int) (m : Nat) (L : List HP) (h1 : p.length ≤ 100000) (h2 : lo.size ≤ 100000) (h3 : hi.size ≤ 100000) :
    Ctr Tryz.prog 72 #[.pointer (some ⟨b, 0, none⟩)] (itM b mid A c p C d q m lo hi L) fun v L' => v = .pointer (some ⟨b, 0, none⟩) ∧ L' = itM b mid A c p C d q (p.length + lo.size + hi.size) lo hi L := by
  obtain ⟨q1, q2, q3, q4, q5, q6, q7, q8, q9, q10, q11, q12⟩ := (itM_in f b mid m L).f
  unfold itM at *
  refine Ctr_of (fn := Tryz.f72) (n := 26) Tryz.func72 rfl rfl rfl ?_
  intro g F
  (repeat first | refine G_seq ?_ | refine G_skip ?_ | refine G_endblk ?_ | refine G_block ?_ | refine G_exit rfl ?_)
  refine G_region ?_
  refine GO_q rfl rfl (ev_assign rfl) ?_
  refine GO_nil ?_
  (repeat first | refine G_seq ?_ | refine G_skip ?_ | refine G_endblk ?_ | refine G_block ?_ | refine G_exit rfl ?_)
  refine G_draw (.q 0 (.q 1 (.q 2 (.q 3 (.q 4 (.q 5 (.q 6 (.q 7 (.q 8 (.q 9 (.q 10 (.q 13 (.q 14 (.q 15 (.q 16 (.q 17 (.e 11 (.q 12 (.e 18 (.q 19 (.q 20 (.q 21 (.e 22 .nil))))))))))))))))))))))) (by kernel_rfl) (by kernel_rfl) ?_
  refine RS_m retB_noPanic rfl rfl rfl rfl (ev_move rfl) ?_
  refine RS_m retB_noPanic rfl rfl rfl rfl (ev_move rfl) ?_
  (first | refine RS_m retB_noPanic rfl rfl rfl rfl (ev_nilCheck rfl) ?_ | refine RS_m retB_noPanic rfl rfl rfl rfl (ev_nilCheckF (by simp) rfl) ?_)
  refine RS_m retB_noPanic rfl rfl rfl rfl (ev_fieldAddr rfl) ?_
  refine RS_q retB_noPanic rfl rfl rfl rfl (ev_load rfl (by repeat' first | exact Ld.blk rfl | assumption | apply Ld.skip | apply Ld.app)) ?_
  refine RS_q retB_noPanic rfl rfl rfl rfl (ev_len rfl) ?_
  refine RS_m retB_noPanic rfl rfl rfl rfl (ev_move rfl) ?_
  (first | refine RS_m retB_noPanic rfl rfl rfl rfl (ev_nilCheck rfl) ?_ | refine RS_m retB_noPanic rfl rfl rfl rfl (ev_nilCheckF (by simp) rfl) ?_)
  refine RS_m retB_noPanic rfl rfl rfl rfl (ev_fieldAddr rfl) ?_
  refine RS_m retB_noPanic rfl rfl rfl rfl (ev_indexAddrA rfl rfl (by first | omega | (simp; done) | (simp; omega)) (by first | omega | (simp; done) | (simp; omega))) ?_
  refine RS_q retB_noPanic rfl rfl rfl rfl (ev_load rfl (by repeat' first | exact Ld.blk rfl | assumption | apply Ld.skip | apply Ld.app)) ?_
  refine RS_m retB_noPanic rfl rfl rfl rfl (ev_move rfl) ?_
  (first | refine RS_m retB_noPanic rfl rfl rfl rfl (ev_nilCheck rfl) ?_ | refine RS_m retB_noPanic rfl rfl rfl rfl (ev_nilCheckF (by simp) rfl) ?_)
  refine RS_m retB_noPanic rfl rfl rfl rfl (ev_fieldAddr rfl) ?_
  refine RS_m retB_noPanic rfl rfl rfl rfl (ev_indexAddrA rfl rfl (by first | omega | (simp; done) | (simp; omega)) (by first | omega | (simp; done) | (simp; omega))) ?_
  refine RS_q retB_noPanic rfl rfl rfl rfl (ev_load rfl (by repeat' first | exact Ld.blk rfl | assumption | apply Ld.skip | apply Ld.app)) ?_
  refine RS_e (RE_eff rfl rfl rfl (eff_call rfl (isize_ctr lo _ q11.skip)) ?_); rintro _ _ ⟨rfl, rfl⟩; refine ⟨_, fun _ s => s, (by first | ((repeat first | exact fun _ s => s | apply en_keep | apply en_drop | apply en_app) <;> fail) | ((repeat first | exact en_refl | (apply en_blk; focus ((repeat' first | exact Pick.here | apply Pick.skip | apply Pick.app); done); focus rfl) | (apply en_own; focus ((repeat' first | exact Pick.here | apply Pick.skip | apply Pick.app); done); focus rfl) | (apply en_pick; focus ((repeat' first | exact Pick.here | apply Pick.skip | apply Pick.app); done)) | apply en_drop | apply en_app) <;> fail)), ?_⟩
  (first | refine RS_m retB_noPanic rfl rfl rfl rfl (ev_addN rfl rfl (by first | omega | (simp; done) | (simp; omega))) ?_ | refine RS_m retB_noPanic rfl rfl rfl rfl (ev_add rfl rfl (by first | omega | (simp; done) | (simp; omega))) ?_)
  refine RS_e (RE_eff rfl rfl rfl (eff_call rfl (isize_ctr hi _ q12.skip)) ?_); rintro _ _ ⟨rfl, rfl⟩; refine ⟨_, fun _ s => s, (by first | ((repeat first | exact fun _ s => s | apply en_keep | apply en_drop | apply en_app) <;> fail) | ((repeat first | exact en_refl | (apply en_blk; focus ((repeat' first | exact Pick.here | apply Pick.skip | apply Pick.app); done); focus rfl) | (apply en_own; focus ((repeat' first | exact Pick.here | apply Pick.skip | apply Pick.app); done); focus rfl) | (apply en_pick; focus ((repeat' first | exact Pick.here | apply Pick.skip | apply Pick.app); done)) | apply en_drop | apply en_app) <;> fail)), ?_⟩
  (first | refine RS_m retB_noPanic rfl rfl rfl rfl (ev_addN rfl rfl (by first | omega | (simp; done) | (simp; omega))) ?_ | refine RS_m retB_noPanic rfl rfl rfl rfl (ev_add rfl rfl (by first | omega | (simp; done) | (simp; omega))) ?_)
  (first | refine RS_m retB_noPanic rfl rfl rfl rfl (ev_nilCheck rfl) ?_ | refine RS_m retB_noPanic rfl rfl rfl rfl (ev_nilCheckF (by simp) rfl) ?_)
  refine RS_m retB_noPanic rfl rfl rfl rfl (ev_fieldAddr rfl) ?_
  refine RS_e (RE_last (by kernel_rfl) rfl rfl rfl (eff_store rfl rfl rfl (by repeat' first | exact Upd.here rfl | apply Upd.skip | apply Upd.app)) ?_); rintro _ _ ⟨rfl, rfl⟩
  (repeat first | refine G_seq ?_ | refine G_skip ?_ | refine G_endblk ?_ | refine G_block ?_ | refine G_exit rfl ?_)
  refine G_region ?_
  refine GO_q rfl rfl (ev_move rfl) ?_
  refine GO_q rfl rfl (ev_assign rfl) ?_
  refine GO_nil ?_
  (repeat first | refine G_seq ?_ | refine G_skip ?_ | refine G_endblk ?_ | refine G_block ?_ | refine G_exit rfl ?_)
  exact G_ret (L' := blk b 92 (inC mid A p.length c C q.length d lo.addr hi.addr (p.length + lo.size + hi.size)) :: own 24 3 A p.length c (flat p) :: own 24 3 C q.length d (flat q) :: itH lo :: itH hi :: L) rfl (.tmp rfl .nil) (by (repeat first | exact en_refl | (apply en_blk; focus ((repeat' first | exact Pick.here | apply Pick.skip | apply Pick.app); done); focus rfl) | (apply en_own; focus ((repeat' first | exact Pick.here | apply Pick.skip | apply Pick.app); done); focus rfl) | (apply en_pick; focus ((repeat' first | exact Pick.here | apply Pick.skip | apply Pick.app); done)) | apply en_drop | apply en_app) <;> fail) ⟨rfl, rfl⟩
end
theorem keep_ctr (b : Nat) (mid : Int) (A C : Option Addr) (np c nq d : Nat) (al ah : Option Addr) (m : Nat) (O : Option Addr) (n e : Nat) (l : List Pt) (L : List HP) (hl : Rd L O n l) (hn : n ≤ 100000) (he : n ≤ e) :
    Ctr Tryz.prog 71 #[.pointer (some ⟨b, 0, none⟩), .slice O n e] (blk b 92 (inC mid A np c C nq d al ah m) :: L) fun v L' => ∃ A' c' C' d', v = .pointer (some ⟨b, 0, none⟩) ∧ (OF A' (srtO Pt.less l).length c' ∧ OF C' (srtO Pt.ends l).length d') ∧ L' = blk b 92 (inC mid A' (srtO Pt.less l).length c' C' (srtO Pt.ends l).length d' al ah m) :: own 24 3 A' (srtO Pt.less l).length c' (flat (srtO Pt.less l)) :: own 24 3 C' (srtO Pt.ends l).length d' (flat (srtO Pt.ends l)) :: L := by
  have c1 := fun M h => (SortO_ctr sto_less less_ls O n e l M h (by omega) he).made
  have c2 := fun M h => (SortO_ctr sto_ends ends_ls O n e l M h (by omega) he).made
  generalize srtO Pt.less l = p at *
  generalize srtO Pt.ends l = q at *
  refine Ctr_of (fn := Tryz.f71) (n := 16) Tryz.func71 rfl rfl rfl ?_
  intro g F
  (repeat first | refine G_seq ?_ | refine G_skip ?_ | refine G_endblk ?_ | refine G_block ?_ | refine G_exit rfl ?_)
  refine G_region ?_
  refine GO_q rfl rfl (ev_assign rfl) ?_
  refine GO_nil ?_
  (repeat first | refine G_seq ?_ | refine G_skip ?_ | refine G_endblk ?_ | refine G_block ?_ | refine G_exit rfl ?_)
  refine G_region ?_
  refine GO_q rfl rfl (ev_move rfl) ?_
  refine GO_q rfl rfl (ev_move rfl) ?_
  refine GO_q rfl rfl (ev_move rfl) ?_
  refine GO_eff rfl rfl (eff_call rfl (c1 _ (by repeat' first | exact Rc.blk rfl | assumption | apply Rd.skip | apply Rd.app))) ?_; rintro _ _ ⟨A1, c1', rfl, u1, u2, u3, rfl⟩
  refine GO_q rfl rfl (ev_move rfl) ?_
  refine GO_eff rfl rfl (eff_call rfl (c2 _ (by repeat' first | exact Rc.blk rfl | assumption | apply Rd.skip | apply Rd.app))) ?_; rintro _ _ ⟨A2, c2', rfl, v1, v2, v3, rfl⟩
  (first | refine GO_q rfl rfl (ev_nilCheck rfl) ?_ | refine GO_q rfl rfl (ev_nilCheckF (by simp) rfl) ?_)
  refine GO_q rfl rfl (ev_fieldAddr rfl) ?_
  refine GO_eff rfl rfl (eff_store rfl rfl rfl (by repeat' first | exact Upd.here rfl | apply Upd.skip | apply Upd.app)) ?_; rintro _ _ ⟨rfl, rfl⟩
  (first | refine GO_q rfl rfl (ev_nilCheck rfl) ?_ | refine GO_q rfl rfl (ev_nilCheckF (by simp) rfl) ?_)
  refine GO_q rfl rfl (ev_fieldAddr rfl) ?_
  refine GO_eff rfl rfl (eff_store rfl rfl rfl (by repeat' first | exact Upd.here rfl | apply Upd.skip | apply Upd.app)) ?_; rintro _ _ ⟨rfl, rfl⟩
  refine GO_nil ?_
  (repeat first | refine G_seq ?_ | refine G_skip ?_ | refine G_endblk ?_ | refine G_block ?_ | refine G_exit rfl ?_)
  refine G_region ?_
  refine GO_q rfl rfl (ev_move rfl) ?_
  refine GO_q rfl rfl (ev_assign rfl) ?_
  refine GO_nil ?_
  (repeat first | refine G_seq ?_ | refine G_skip ?_ | refine G_endblk ?_ | refine G_block ?_ | refine G_exit rfl ?_)
  exact G_ret (L' := blk b 92 (inC mid A1 p.length c1' A2 q.length c2' al ah m) :: own 24 3 A1 p.length c1' (flat p) :: own 24 3 A2 q.length c2' (flat q) :: L) rfl (.tmp rfl .nil) (by (repeat first | exact en_refl | (apply en_blk; focus ((repeat' first | exact Pick.here | apply Pick.skip | apply Pick.app); done); focus rfl) | (apply en_own; focus ((repeat' first | exact Pick.here | apply Pick.skip | apply Pick.app); done); focus rfl) | (apply en_pick; focus ((repeat' first | exact Pick.here | apply Pick.skip | apply Pick.app); done)) | apply en_drop | apply en_app) <;> fail) ⟨A1, c1', A2, c2', rfl, ⟨⟨u1, u2, u3⟩, ⟨v1, v2, v3⟩⟩, rfl⟩
end Go.Proofs.YtjnmpogolknkpaaGreat
/- A tree of middles: build, even. -/
namespace Go.Proofs.YtjnmpogolknkpaaGreat
attribute [local irreducible] sat
set_option linter.unusedVariables false
set_option linter.unusedSimpArgs false
set_option maxRecDepth 100000

theorem endsOf_succ {l : List Pt} {k : Nat} {a : Pt} (h : l[k]? = some a) : flat (endsOf (l.take (k + 1))) = flat (endsOf (l.take k)) ++ [Value.int .i64 a.x, .int .i64 a.y] := by
  unfold endsOf
  rw [List.take_add_one, h, List.flatMap_append, flat_append]
  rfl
theorem part_succ {f : Pt → Bool} {l : List Pt} {k : Nat} {a : Pt} (h : l[k]? = some a) : (l.take (k + 1)).filter f = (l.take k).filter f ++ (if f a = true then [a] else []) := by
  rw [List.take_add_one, h, List.filter_append]
  simp [List.filter_cons]
theorem low_len (mid : Int) (l : List Pt) : (lowL mid l).length ≤ l.length := List.length_filter_le _ _
theorem high_len (mid : Int) (l : List Pt) : (highL mid l).length ≤ l.length := List.length_filter_le _ _
theorem own_len' (mid : Int) (l : List Pt) : (ownL mid l).length ≤ l.length := List.length_filter_le _ _
theorem build_ctr : ∀ (N : Nat) (A : Option Addr) (n c : Nat) (l : List Pt) (L : List HP) (_ : n ≤ N) (_ : Rd L A n l) (_ : n ≤ 100000) (_ : n ≤ c) (_ : ∀ s ∈ l, s.x ≤ s.y) (_ : l.Nodup),
    Ctr Tryz.prog 104 #[.slice A n c] L fun v L' => MadeI l L v L' := by
  intro N
  induction N using Nat.strongRecOn with
  | _ N ih =>
  intro A n c l L hN hl hn hc hf hnd
  have h1 : l.length = n := hl.len (by decide)
  have hel := endsOf_length l
  refine Ctr_of (fn := Tryz.f104) (n := 76) Tryz.func104 rfl rfl rfl ?_
  intro g F
  (repeat first | refine G_seq ?_ | refine G_skip ?_ | refine G_endblk ?_ | refine G_block ?_ | refine G_exit rfl ?_)
  refine G_region ?_
  refine GO_q rfl rfl (ev_assign rfl) ?_
  refine GO_nil ?_
  (repeat first | refine G_seq ?_ | refine G_skip ?_ | refine G_endblk ?_ | refine G_block ?_ | refine G_exit rfl ?_)
  refine G_region ?_
  refine GO_q rfl rfl (ev_assign rfl) ?_
  refine GO_nil ?_
  (repeat first | refine G_seq ?_ | refine G_skip ?_ | refine G_endblk ?_ | refine G_block ?_ | refine G_exit rfl ?_)
  refine G_region ?_
  refine GO_q rfl rfl (ev_move rfl) ?_
  refine GO_q rfl rfl (ev_len rfl) ?_
  refine GO_q rfl rfl (ev_move rfl) ?_
  refine GO_nil ?_
  (repeat first | refine G_seq ?_ | refine G_skip ?_ | refine G_endblk ?_)
  refine G_cut (ι := Option Addr × Nat) (fun z => [(0, .slice A n c), (3, .slice z.1 (2 * n) z.2)]) (fun z => own 3 1 z.1 (2 * n) z.2 (flat (endsOf l)) :: F :: L) (fun z => (0 < 2 * n → ∃ b, z.1 = some ⟨b, 0, none⟩) ∧ 2 * n ≤ z.2) ?_ ?_
  · (repeat first | refine G_seq ?_ | refine G_skip ?_ | refine G_endblk ?_ | refine G_block ?_ | refine G_exit rfl ?_)
    refine G_heap (own.nil_ 3 1) ?_
    refine G_loop (ι := Nat × Option Addr × Nat) (fun z => [(0, .slice A n c), (3, .slice z.2.1 (2 * z.1) z.2.2), (14, .slice A n c), (15, .int .i64 (n : Nat)), (16, .int .i64 (z.1 : Nat))]) (fun z => own 3 1 z.2.1 (2 * z.1) z.2.2 (flat (endsOf (l.take z.1))) :: F :: L) (fun z => z.1 ≤ n ∧ (0 < 2 * z.1 → ∃ b, z.2.1 = some ⟨b, 0, none⟩) ∧ 2 * z.1 ≤ z.2.2) (fun z => n - z.1) (0, none, 0) ⟨Nat.zero_le _, fun h => absurd h (Nat.lt_irrefl 0), Nat.le_refl _⟩ ⟨rfl, rfl, rfl, rfl, rfl, trivial⟩ (by (repeat first | exact fun _ s => s | apply en_keep | apply en_drop | apply en_app) <;> fail) ?_
    rintro ⟨i, O, e⟩ ⟨f1, f3, f4⟩
    simp only at f1 f3 f4
    dsimp only
    (repeat first | refine G_seq ?_ | refine G_skip ?_ | refine G_endblk ?_ | refine G_block ?_ | refine G_exit rfl ?_)
    refine G_region ?_
    (first | refine GO_q rfl rfl (ev_lssN rfl rfl) ?_ | refine GO_q rfl rfl (ev_lss rfl rfl) ?_)
    refine GO_nil ?_
    (repeat first | refine G_seq ?_ | refine G_skip ?_ | refine G_endblk ?_ | refine G_block ?_ | refine G_exit rfl ?_)
    refine G_cond rfl (fun c1 => ?_) (fun c1 => ?_)
    · obtain ⟨b1, o1, rfl, x1⟩ := hl.at_ (by omega)
      have g1 : l[i]? = some l[i] := List.getElem?_eq_getElem (by omega)
      have y1 := x1 _ _ g1
      have s1 := endsOf_succ g1
      generalize l[i] = u at *
      have z1 : LdN L b1 (o1 + i * 3) 3 [.int .i64 u.id, .int .i64 u.x, .int .i64 u.y] := y1
      (repeat first | refine G_seq ?_ | refine G_skip ?_ | refine G_endblk ?_ | refine G_block ?_ | refine G_exit rfl ?_)
      refine G_region ?_
      (first | refine GO_q rfl rfl (ev_indexAddrN rfl rfl (by first | omega | (simp; done) | (simp; omega))) ?_ | refine GO_q rfl rfl (ev_indexAddr rfl rfl (by first | omega | (simp; done) | (simp; omega)) (by first | omega | (simp; done) | (simp; omega))) ?_)
      refine GO_q rfl rfl (ev_loadN rfl (by repeat' first | exact LdN.blk rfl | assumption | apply LdN.skip | apply LdN.app)) ?_
      refine GO_eff rfl rfl eff_alloc ?_; rintro _ _ ⟨b5, rfl, rfl⟩
      refine GO_eff rfl rfl (eff_storeN rfl rfl rfl rfl (by repeat' first | exact Upd.here rfl | apply Upd.skip | apply Upd.app)) ?_; rintro _ _ ⟨rfl, rfl⟩
      refine GO_nil ?_
      (repeat first | refine G_seq ?_ | refine G_skip ?_ | refine G_endblk ?_ | refine G_block ?_ | refine G_exit rfl ?_)
      refine G_region ?_
      refine GO_q rfl rfl (ev_move rfl) ?_
      refine GO_q rfl rfl (ev_fieldAddr rfl) ?_
      refine GO_q rfl rfl (ev_load rfl (by repeat' first | exact Ld.blk rfl | assumption | apply Ld.skip | apply Ld.app)) ?_
      refine GO_q rfl rfl (ev_fieldAddr rfl) ?_
      refine GO_q rfl rfl (ev_load rfl (by repeat' first | exact Ld.blk rfl | assumption | apply Ld.skip | apply Ld.app)) ?_
      refine GO_eff rfl rfl (eff_buildSliceN (by rfl) rfl rfl) ?_; rintro _ _ ⟨b25, rfl, rfl⟩
      refine GO_eff rfl rfl (eff_append rfl rfl (by repeat' first | exact Pick.here | apply Pick.skip) (by repeat' first | exact Rc.blk rfl | assumption | apply Rc.skip) (one_all rfl) (by rfl) (by decide) (by first | omega | (simp; done) | (simp; omega)) (by first | omega | (simp; done) | (simp; omega))) ?_; rintro _ _ ⟨A26, c26, rfl, hc26, hm26, hn26, rfl⟩
      refine GO_q rfl rfl (ev_assign rfl) ?_
      refine GO_nil ?_
      (repeat first | refine G_seq ?_ | refine G_skip ?_ | refine G_endblk ?_ | refine G_block ?_ | refine G_exit rfl ?_)
      refine G_region ?_
      (first | refine GO_q rfl rfl (ev_addN (q := 1) rfl rfl (by first | omega | (simp; done) | (simp; omega))) ?_ | refine GO_q rfl rfl (ev_add rfl rfl (by first | omega | (simp; done) | (simp; omega))) ?_)
      refine GO_q rfl rfl (ev_move rfl) ?_
      refine GO_nil ?_
      (repeat first | refine G_seq ?_ | refine G_skip ?_ | refine G_endblk ?_ | refine G_block ?_ | refine G_exit rfl ?_)
      refine G_round (i + 1, A26, c26) ⟨by simp only; omega, fun _ => hn26 (by omega), by simp only; omega⟩ (by simp only; omega) ⟨rfl, rfl, rfl, rfl, rfl, trivial⟩ ?_
      simp only [s1]
      exact (by (repeat first | exact en_refl | (apply en_blk; focus ((repeat' first | exact Pick.here | apply Pick.skip | apply Pick.app); done); focus rfl) | (apply en_own; focus ((repeat' first | exact Pick.here | apply Pick.skip | apply Pick.app); done); focus rfl) | (apply en_pick; focus ((repeat' first | exact Pick.here | apply Pick.skip | apply Pick.app); done)) | apply en_drop | apply en_app) <;> fail)
    · have e0 : i = n := by omega
      subst e0
      rw [List.take_of_length_le (by omega)]
      (repeat first | refine G_seq ?_ | refine G_skip ?_ | refine G_endblk ?_ | refine G_block ?_ | refine G_exit rfl ?_)
      exact G_inv (O, e) ⟨f3, f4⟩ ⟨rfl, rfl, trivial⟩ (by (repeat first | exact fun _ s => s | apply en_keep | apply en_drop | apply en_app) <;> fail)
  · rintro ⟨O, e⟩ ⟨f3, f4⟩
    simp only at f3 f4
    dsimp only
    have hrd : Rd (own 3 1 O (2 * n) e (flat (endsOf l)) :: F :: L) O (2 * n) (endsOf l) := Rc.own (by rw [flat_length, hel, h1]; rfl) f3
    rcases Nat.eq_zero_or_pos n with h0 | h0
    · subst h0
      have e0 : l = [] := List.eq_nil_of_length_eq_zero h1
      subst e0
      (repeat first | refine G_seq ?_ | refine G_skip ?_ | refine G_endblk ?_ | refine G_block ?_ | refine G_exit rfl ?_)
      refine G_region ?_
      refine GO_q rfl rfl (ev_move rfl) ?_
      refine GO_eff rfl rfl (eff_call rfl (MedianI0_ctr O e _)) ?_; rintro _ _ ⟨rfl, rfl⟩
      refine GO_q rfl rfl (ev_move rfl) ?_
      refine GO_q rfl rfl (ev_extract rfl rfl) ?_
      refine GO_q rfl rfl (ev_extract rfl rfl) ?_
      refine GO_q rfl rfl (ev_assign rfl) ?_
      refine GO_q rfl rfl (ev_assign rfl) ?_
      refine GO_nil ?_
      (repeat first | refine G_seq ?_ | refine G_skip ?_ | refine G_endblk ?_ | refine G_block ?_ | refine G_exit rfl ?_)
      refine G_region ?_
      refine GO_q rfl rfl (ev_move rfl) ?_
      refine GO_q rfl rfl (ev_not rfl) ?_
      refine GO_nil ?_
      (repeat first | refine G_seq ?_ | refine G_skip ?_ | refine G_endblk ?_ | refine G_block ?_ | refine G_exit rfl ?_)
      refine G_cond_t rfl rfl ?_
      (repeat first | refine G_seq ?_ | refine G_skip ?_ | refine G_endblk ?_ | refine G_block ?_ | refine G_exit rfl ?_)
      refine G_region ?_
      refine GO_q rfl rfl (ev_assign rfl) ?_
      refine GO_nil ?_
      (repeat first | refine G_seq ?_ | refine G_skip ?_ | refine G_endblk ?_ | refine G_block ?_ | refine G_exit rfl ?_)
      exact G_ret (L' := itH .nil :: L) rfl (.tmp rfl .nil) (by (repeat first | exact en_refl | apply en_nil' | (apply en_blk; focus ((repeat' first | exact Pick.here | apply Pick.skip | apply Pick.app); done); focus rfl) | (apply en_own; focus ((repeat' first | exact Pick.here | apply Pick.skip | apply Pick.app); done); focus rfl) | (apply en_pick; focus ((repeat' first | exact Pick.here | apply Pick.skip | apply Pick.app); done)) | apply en_drop | apply en_app) <;> fail) ⟨.nil, ⟨trivial, trivial, .refl _⟩, rfl, rfl⟩
    · obtain ⟨mid, hm⟩ : ∃ mid, (srtO ltI (endsOf l))[2 * n / 2]? = some mid := ⟨_, List.getElem?_eq_getElem (by rw [srtO_length]; omega)⟩
      have hm' : (srtO ltI (endsOf l))[l.length]? = some mid := by rw [← hm]; congr 1; omega
      obtain ⟨k1, k2⟩ := mid_sides hf hm'
      (repeat first | refine G_seq ?_ | refine G_skip ?_ | refine G_endblk ?_ | refine G_block ?_ | refine G_exit rfl ?_)
      refine G_region ?_
      refine GO_q rfl rfl (ev_move rfl) ?_
      refine GO_eff rfl rfl (eff_call rfl (MedianI_ctr O (2 * n) e (endsOf l) mid _ hrd (by omega) f4 hm)) ?_; rintro _ _ ⟨rfl, rfl⟩
      refine GO_q rfl rfl (ev_move rfl) ?_
      refine GO_q rfl rfl (ev_extract rfl rfl) ?_
      refine GO_q rfl rfl (ev_extract rfl rfl) ?_
      refine GO_q rfl rfl (ev_assign rfl) ?_
      refine GO_q rfl rfl (ev_assign rfl) ?_
      refine GO_nil ?_
      (repeat first | refine G_seq ?_ | refine G_skip ?_ | refine G_endblk ?_ | refine G_block ?_ | refine G_exit rfl ?_)
      refine G_region ?_
      refine GO_q rfl rfl (ev_move rfl) ?_
      refine GO_q rfl rfl (ev_not rfl) ?_
      refine GO_nil ?_
      (repeat first | refine G_seq ?_ | refine G_skip ?_ | refine G_endblk ?_ | refine G_block ?_ | refine G_exit rfl ?_)
      refine G_cond_f rfl rfl ?_
      (repeat first | refine G_seq ?_ | refine G_skip ?_ | refine G_endblk ?_ | refine G_block ?_ | refine G_exit rfl ?_)
      refine G_region ?_
      refine GO_q rfl rfl (ev_move rfl) ?_
      refine GO_q rfl rfl (ev_build rfl rfl) ?_
      refine GO_eff rfl rfl (eff_box rfl) ?_; rintro _ _ ⟨b37, rfl, rfl⟩
      refine GO_q rfl rfl (ev_assign rfl) ?_
      refine GO_nil ?_
      (repeat first | refine G_seq ?_ | refine G_skip ?_ | refine G_endblk ?_ | refine G_block ?_ | refine G_exit rfl ?_)
      refine G_region ?_
      refine GO_eff rfl rfl eff_alloc ?_; rintro _ _ ⟨b9, rfl, rfl⟩
      refine GO_nil ?_
      (repeat first | refine G_seq ?_ | refine G_skip ?_ | refine G_endblk ?_ | refine G_block ?_ | refine G_exit rfl ?_)
      refine G_region ?_
      refine GO_q rfl rfl (ev_assign rfl) ?_
      refine GO_nil ?_
      (repeat first | refine G_seq ?_ | refine G_skip ?_ | refine G_endblk ?_ | refine G_block ?_ | refine G_exit rfl ?_)
      refine G_region ?_
      refine GO_q rfl rfl (ev_move rfl) ?_
      refine GO_q rfl rfl (ev_len rfl) ?_
      refine GO_q rfl rfl (ev_move rfl) ?_
      refine GO_nil ?_
      (repeat first | refine G_seq ?_ | refine G_skip ?_ | refine G_endblk ?_ | refine G_block ?_ | refine G_exit rfl ?_)
      refine G_heap (own.nil_ 24 3) ?_
      refine G_heap (own.nil_ 24 3) ?_
      refine G_heap (own.nil_ 24 3) ?_
      refine G_loop (ι := Nat × (Option Addr × Nat) × (Option Addr × Nat) × (Option Addr × Nat)) (fun z => [(8, .pointer (some ⟨b37, 0, none⟩)), (9, .pointer (some ⟨b9, 0, none⟩)), (10, .slice z.2.2.2.1 (ownL mid (l.take z.1)).length z.2.2.2.2), (38, .slice A n c), (39, .int .i64 (n : Nat)), (40, .int .i64 (z.1 : Nat))])
        (fun z => own 24 3 z.2.1.1 (lowL mid (l.take z.1)).length z.2.1.2 (flat (lowL mid (l.take z.1))) :: own 24 3 z.2.2.1.1 (highL mid (l.take z.1)).length z.2.2.1.2 (flat (highL mid (l.take z.1))) :: own 24 3 z.2.2.2.1 (ownL mid (l.take z.1)).length z.2.2.2.2 (flat (ownL mid (l.take z.1)))
          :: blk b9 141 [.slice z.2.1.1 (lowL mid (l.take z.1)).length z.2.1.2, .slice z.2.2.1.1 (highL mid (l.take z.1)).length z.2.2.1.2] :: blk b37 92 (inC mid none 0 0 none 0 0 none none 0) :: F :: L)
        (fun z => z.1 ≤ n ∧ ((0 < (lowL mid (l.take z.1)).length → ∃ b, z.2.1.1 = some ⟨b, 0, none⟩) ∧ (lowL mid (l.take z.1)).length ≤ z.2.1.2) ∧ ((0 < (highL mid (l.take z.1)).length → ∃ b, z.2.2.1.1 = some ⟨b, 0, none⟩) ∧ (highL mid (l.take z.1)).length ≤ z.2.2.1.2) ∧ ((0 < (ownL mid (l.take z.1)).length → ∃ b, z.2.2.2.1 = some ⟨b, 0, none⟩) ∧ (ownL mid (l.take z.1)).length ≤ z.2.2.2.2))
        (fun z => n - z.1) (0, (none, 0), (none, 0), (none, 0)) ⟨Nat.zero_le _, ⟨fun h => absurd h (Nat.lt_irrefl 0), Nat.le_refl _⟩, ⟨fun h => absurd h (Nat.lt_irrefl 0), Nat.le_refl _⟩, ⟨fun h => absurd h (Nat.lt_irrefl 0), Nat.le_refl _⟩⟩ ⟨rfl, rfl, rfl, rfl, rfl, rfl, trivial⟩ (by (repeat first | exact en_refl | (apply en_blk; focus ((repeat' first | exact Pick.here | apply Pick.skip | apply Pick.app); done); focus rfl) | (apply en_own; focus ((repeat' first | exact Pick.here | apply Pick.skip | apply Pick.app); done); focus rfl) | (apply en_pick; focus ((repeat' first | exact Pick.here | apply Pick.skip | apply Pick.app); done)) | apply en_drop | apply en_app) <;> fail) ?_
      rintro ⟨i, ⟨A0, c0⟩, ⟨A1, c1⟩, ⟨A2, c2⟩⟩ ⟨f1, ⟨u1, u2⟩, ⟨v1, v2⟩, ⟨w1, w2⟩⟩
      simp only at f1 u1 u2 v1 v2 w1 w2
      dsimp only
      have t0 := low_len mid (l.take i)
      have t1 := high_len mid (l.take i)
      have t2 := own_len' mid (l.take i)
      rw [List.length_take] at t0 t1 t2
      (repeat first | refine G_seq ?_ | refine G_skip ?_ | refine G_endblk ?_ | refine G_block ?_ | refine G_exit rfl ?_)
      refine G_region ?_
      (first | refine GO_q rfl rfl (ev_lssN rfl rfl) ?_ | refine GO_q rfl rfl (ev_lss rfl rfl) ?_)
      refine GO_nil ?_
      (repeat first | refine G_seq ?_ | refine G_skip ?_ | refine G_endblk ?_ | refine G_block ?_ | refine G_exit rfl ?_)
      refine G_cond rfl (fun g0 => ?_) (fun g0 => ?_)
      · have g1 : l[i]? = some l[i] := List.getElem?_eq_getElem (by omega)
        have s0 : lowL mid (l.take (i + 1)) = _ := part_succ g1
        have s1 : highL mid (l.take (i + 1)) = _ := part_succ g1
        have s2 : ownL mid (l.take (i + 1)) = _ := part_succ g1
        have hfu := hf l[i] (List.getElem_mem _)
        obtain ⟨b1, o1, rfl, x1⟩ := hl.at_ (by omega)
        have y1 := x1 _ _ g1
        generalize l[i] = u at *
        have z1 : LdN L b1 (o1 + i * 3) 3 [.int .i64 u.id, .int .i64 u.x, .int .i64 u.y] := y1
        have hsd := fun L h => side_ctr b37 mid u L h
        change lowL mid (l.take (i + 1)) = lowL mid (l.take i) ++ _ at s0
        change highL mid (l.take (i + 1)) = highL mid (l.take i) ++ _ at s1
        change ownL mid (l.take (i + 1)) = ownL mid (l.take i) ++ _ at s2
        by_cases e1 : u.y < mid
        · have e : sideI mid u = 0 := by unfold sideI; rw [if_pos e1]
          rw [e] at hsd
          rw [if_pos (by simpa using e1)] at s0
          rw [if_neg (by simp; omega), List.append_nil] at s1 s2
          generalize lowL mid (l.take i) = l0 at *
          generalize highL mid (l.take i) = l1 at *
          generalize ownL mid (l.take i) = l2 at *
          (repeat first | refine G_seq ?_ | refine G_skip ?_ | refine G_endblk ?_ | refine G_block ?_ | refine G_exit rfl ?_)
          refine G_region ?_
          (first | refine GO_q rfl rfl (ev_indexAddrN rfl rfl (by first | omega | (simp; done) | (simp; omega))) ?_ | refine GO_q rfl rfl (ev_indexAddr rfl rfl (by first | omega | (simp; done) | (simp; omega)) (by first | omega | (simp; done) | (simp; omega))) ?_)
          refine GO_q rfl rfl (ev_loadN rfl (by repeat' first | exact LdN.blk rfl | assumption | apply LdN.skip | apply LdN.app)) ?_
          refine GO_eff rfl rfl eff_alloc ?_; rintro _ _ ⟨b12, rfl, rfl⟩
          refine GO_eff rfl rfl (eff_storeN rfl rfl rfl rfl (by repeat' first | exact Upd.here rfl | apply Upd.skip | apply Upd.app)) ?_; rintro _ _ ⟨rfl, rfl⟩
          refine GO_nil ?_
          (repeat first | refine G_seq ?_ | refine G_skip ?_ | refine G_endblk ?_ | refine G_block ?_ | refine G_exit rfl ?_)
          refine G_region ?_
          refine GO_q rfl rfl (ev_move rfl) ?_
          refine GO_q rfl rfl (ev_loadN rfl (by repeat' first | exact LdN.blk rfl | assumption | apply LdN.skip | apply LdN.app)) ?_
          refine GO_eff rfl rfl (eff_call rfl (hsd _ (by repeat' first | exact Ld.blk rfl | assumption | apply Ld.skip | apply Ld.app))) ?_; rintro _ _ ⟨rfl, rfl⟩
          refine GO_q rfl rfl (ev_assign rfl) ?_
          refine GO_nil ?_
          (repeat first | refine G_seq ?_ | refine G_skip ?_ | refine G_endblk ?_ | refine G_block ?_ | refine G_exit rfl ?_)
          refine G_region ?_
          refine GO_q rfl rfl (ev_move rfl) ?_
          refine GO_q rfl rfl (ev_geq rfl rfl) ?_
          refine GO_nil ?_
          (repeat first | refine G_seq ?_ | refine G_skip ?_ | refine G_endblk ?_ | refine G_block ?_ | refine G_exit rfl ?_)
          refine G_cond_t rfl rfl ?_
          (repeat first | refine G_seq ?_ | refine G_skip ?_ | refine G_endblk ?_ | refine G_block ?_ | refine G_exit rfl ?_)
          refine G_draw (.q 0 (.q 1 (.q 2 (.q 3 (.q 4 (.e 5 (.e 6 (.q 7 (.e 8 .nil))))))))) (by kernel_rfl) (by kernel_rfl) ?_
          refine RS_m retB_noPanic rfl rfl rfl rfl (ev_move rfl) ?_
          refine RS_m retB_noPanic rfl rfl rfl rfl (ev_move rfl) ?_
          refine RS_m retB_noPanic rfl rfl rfl rfl (ev_indexAddrA rfl rfl (by first | omega | (simp; done) | (simp; omega)) (by first | omega | (simp; done) | (simp; omega))) ?_
          refine RS_q retB_noPanic rfl rfl rfl rfl (ev_load rfl (by repeat' first | exact Ld.blk rfl | assumption | apply Ld.skip | apply Ld.app)) ?_
          refine RS_q retB_noPanic rfl rfl rfl rfl (ev_loadN rfl (by repeat' first | exact LdN.blk rfl | assumption | apply LdN.skip | apply LdN.app)) ?_
          refine RS_e (RE_eff rfl rfl rfl (eff_buildSlice1 (by rfl) rfl rfl) ?_); rintro _ _ ⟨b54, rfl, rfl⟩; refine ⟨_, fun _ s => s, (by first | ((repeat first | exact fun _ s => s | apply en_keep | apply en_drop | apply en_app) <;> fail) | ((repeat first | exact en_refl | (apply en_blk; focus ((repeat' first | exact Pick.here | apply Pick.skip | apply Pick.app); done); focus rfl) | (apply en_own; focus ((repeat' first | exact Pick.here | apply Pick.skip | apply Pick.app); done); focus rfl) | (apply en_pick; focus ((repeat' first | exact Pick.here | apply Pick.skip | apply Pick.app); done)) | apply en_drop | apply en_app) <;> fail)), ?_⟩
          refine RS_e (RE_cmp (by kernel_rfl) rfl rfl rfl (eff_append rfl rfl (by repeat' first | exact Pick.here | apply Pick.skip) (by repeat' first | exact Rc.blk rfl | assumption | apply Rc.skip) (one_all rfl) (by rfl) (by decide) (by first | omega | (simp; done) | (simp; omega)) (by first | omega | (simp; done) | (simp; omega))) ?_); rintro _ _ ⟨A55, c55, rfl, hc55, hm55, hn55, rfl⟩
          refine RS_m retB_noPanic rfl rfl rfl rfl (ev_indexAddrA rfl rfl (by first | omega | (simp; done) | (simp; omega)) (by first | omega | (simp; done) | (simp; omega))) ?_
          refine RS_e (RE_last (by kernel_rfl) rfl rfl rfl (eff_store rfl rfl rfl (by repeat' first | exact Upd.here rfl | apply Upd.skip | apply Upd.app)) ?_); rintro _ _ ⟨rfl, rfl⟩
          all_goals
            (repeat first | refine G_seq ?_ | refine G_skip ?_ | refine G_endblk ?_ | refine G_block ?_ | refine G_exit rfl ?_)
            refine G_region ?_
            (first | refine GO_q rfl rfl (ev_addN (q := 1) rfl rfl (by first | omega | (simp; done) | (simp; omega))) ?_ | refine GO_q rfl rfl (ev_add rfl rfl (by first | omega | (simp; done) | (simp; omega))) ?_)
            refine GO_q rfl rfl (ev_move rfl) ?_
            refine GO_nil ?_
            (repeat first | refine G_seq ?_ | refine G_skip ?_ | refine G_endblk ?_ | refine G_block ?_ | refine G_exit rfl ?_)
            refine G_round (i + 1, (A55, c55), (A1, c1), (A2, c2)) ⟨by simp only; omega, ⟨fun _ => hn55 (by omega), by simp only [s0]; simp only [List.length_append, List.length_singleton]; omega⟩, ⟨by simp only [s1]; exact v1, by simp only [s1]; exact v2⟩, ⟨by simp only [s2]; exact w1, by simp only [s2]; exact w2⟩⟩ (by simp only; omega) ⟨rfl, rfl, by simp only [s2]; rfl, rfl, rfl, rfl, trivial⟩ ?_
            simp only [s0, s1, s2, List.length_append, List.length_singleton]
            rw [← flat_snoc]
            exact (by (repeat first | exact en_refl | (apply en_blk; focus ((repeat' first | exact Pick.here | apply Pick.skip | apply Pick.app); done); focus rfl) | (apply en_own; focus ((repeat' first | exact Pick.here | apply Pick.skip | apply Pick.app); done); focus rfl) | (apply en_pick; focus ((repeat' first | exact Pick.here | apply Pick.skip | apply Pick.app); done)) | apply en_drop | apply en_app) <;> fail)
        · by_cases e2 : mid < u.x
          · have e : sideI mid u = 1 := by unfold sideI; rw [if_neg e1, if_pos e2]
            rw [e] at hsd
            rw [if_pos (by simpa using e2)] at s1
            rw [if_neg (by simp; omega), List.append_nil] at s0 s2
            generalize lowL mid (l.take i) = l0 at *
            generalize highL mid (l.take i) = l1 at *
            generalize ownL mid (l.take i) = l2 at *
            (repeat first | refine G_seq ?_ | refine G_skip ?_ | refine G_endblk ?_ | refine G_block ?_ | refine G_exit rfl ?_)
            refine G_region ?_
            (first | refine GO_q rfl rfl (ev_indexAddrN rfl rfl (by first | omega | (simp; done) | (simp; omega))) ?_ | refine GO_q rfl rfl (ev_indexAddr rfl rfl (by first | omega | (simp; done) | (simp; omega)) (by first | omega | (simp; done) | (simp; omega))) ?_)
            refine GO_q rfl rfl (ev_loadN rfl (by repeat' first | exact LdN.blk rfl | assumption | apply LdN.skip | apply LdN.app)) ?_
            refine GO_eff rfl rfl eff_alloc ?_; rintro _ _ ⟨b12, rfl, rfl⟩
            refine GO_eff rfl rfl (eff_storeN rfl rfl rfl rfl (by repeat' first | exact Upd.here rfl | apply Upd.skip | apply Upd.app)) ?_; rintro _ _ ⟨rfl, rfl⟩
            refine GO_nil ?_
            (repeat first | refine G_seq ?_ | refine G_skip ?_ | refine G_endblk ?_ | refine G_block ?_ | refine G_exit rfl ?_)
            refine G_region ?_
            refine GO_q rfl rfl (ev_move rfl) ?_
            refine GO_q rfl rfl (ev_loadN rfl (by repeat' first | exact LdN.blk rfl | assumption | apply LdN.skip | apply LdN.app)) ?_
            refine GO_eff rfl rfl (eff_call rfl (hsd _ (by repeat' first | exact Ld.blk rfl | assumption | apply Ld.skip | apply Ld.app))) ?_; rintro _ _ ⟨rfl, rfl⟩
            refine GO_q rfl rfl (ev_assign rfl) ?_
            refine GO_nil ?_
            (repeat first | refine G_seq ?_ | refine G_skip ?_ | refine G_endblk ?_ | refine G_block ?_ | refine G_exit rfl ?_)
            refine G_region ?_
            refine GO_q rfl rfl (ev_move rfl) ?_
            refine GO_q rfl rfl (ev_geq rfl rfl) ?_
            refine GO_nil ?_
            (repeat first | refine G_seq ?_ | refine G_skip ?_ | refine G_endblk ?_ | refine G_block ?_ | refine G_exit rfl ?_)
            refine G_cond_t rfl rfl ?_
            (repeat first | refine G_seq ?_ | refine G_skip ?_ | refine G_endblk ?_ | refine G_block ?_ | refine G_exit rfl ?_)
            refine G_draw (.q 0 (.q 1 (.q 2 (.q 3 (.q 4 (.e 5 (.e 6 (.q 7 (.e 8 .nil))))))))) (by kernel_rfl) (by kernel_rfl) ?_
            refine RS_m retB_noPanic rfl rfl rfl rfl (ev_move rfl) ?_
            refine RS_m retB_noPanic rfl rfl rfl rfl (ev_move rfl) ?_
            refine RS_m retB_noPanic rfl rfl rfl rfl (ev_indexAddrA rfl rfl (by first | omega | (simp; done) | (simp; omega)) (by first | omega | (simp; done) | (simp; omega))) ?_
            refine RS_q retB_noPanic rfl rfl rfl rfl (ev_load rfl (by repeat' first | exact Ld.blk rfl | assumption | apply Ld.skip | apply Ld.app)) ?_
            refine RS_q retB_noPanic rfl rfl rfl rfl (ev_loadN rfl (by repeat' first | exact LdN.blk rfl | assumption | apply LdN.skip | apply LdN.app)) ?_
            refine RS_e (RE_eff rfl rfl rfl (eff_buildSlice1 (by rfl) rfl rfl) ?_); rintro _ _ ⟨b54, rfl, rfl⟩; refine ⟨_, fun _ s => s, (by first | ((repeat first | exact fun _ s => s | apply en_keep | apply en_drop | apply en_app) <;> fail) | ((repeat first | exact en_refl | (apply en_blk; focus ((repeat' first | exact Pick.here | apply Pick.skip | apply Pick.app); done); focus rfl) | (apply en_own; focus ((repeat' first | exact Pick.here | apply Pick.skip | apply Pick.app); done); focus rfl) | (apply en_pick; focus ((repeat' first | exact Pick.here | apply Pick.skip | apply Pick.app); done)) | apply en_drop | apply en_app) <;> fail)), ?_⟩
            refine RS_e (RE_cmp (by kernel_rfl) rfl rfl rfl (eff_append rfl rfl (by repeat' first | exact Pick.here | apply Pick.skip) (by repeat' first | exact Rc.blk rfl | assumption | apply Rc.skip) (one_all rfl) (by rfl) (by decide) (by first | omega | (simp; done) | (simp; omega)) (by first | omega | (simp; done) | (simp; omega))) ?_); rintro _ _ ⟨A55, c55, rfl, hc55, hm55, hn55, rfl⟩
            refine RS_m retB_noPanic rfl rfl rfl rfl (ev_indexAddrA rfl rfl (by first | omega | (simp; done) | (simp; omega)) (by first | omega | (simp; done) | (simp; omega))) ?_
            refine RS_e (RE_last (by kernel_rfl) rfl rfl rfl (eff_store rfl rfl rfl (by repeat' first | exact Upd.here rfl | apply Upd.skip | apply Upd.app)) ?_); rintro _ _ ⟨rfl, rfl⟩
            all_goals
              (repeat first | refine G_seq ?_ | refine G_skip ?_ | refine G_endblk ?_ | refine G_block ?_ | refine G_exit rfl ?_)
              refine G_region ?_
              (first | refine GO_q rfl rfl (ev_addN (q := 1) rfl rfl (by first | omega | (simp; done) | (simp; omega))) ?_ | refine GO_q rfl rfl (ev_add rfl rfl (by first | omega | (simp; done) | (simp; omega))) ?_)
              refine GO_q rfl rfl (ev_move rfl) ?_
              refine GO_nil ?_
              (repeat first | refine G_seq ?_ | refine G_skip ?_ | refine G_endblk ?_ | refine G_block ?_ | refine G_exit rfl ?_)
              refine G_round (i + 1, (A0, c0), (A55, c55), (A2, c2)) ⟨by simp only; omega, ⟨by simp only [s0]; exact u1, by simp only [s0]; exact u2⟩, ⟨fun _ => hn55 (by omega), by simp only [s1]; simp only [List.length_append, List.length_singleton]; omega⟩, ⟨by simp only [s2]; exact w1, by simp only [s2]; exact w2⟩⟩ (by simp only; omega) ⟨rfl, rfl, by simp only [s2]; rfl, rfl, rfl, rfl, trivial⟩ ?_
              simp only [s0, s1, s2, List.length_append, List.length_singleton]
              rw [← flat_snoc]
              exact (by (repeat first | exact en_refl | (apply en_blk; focus ((repeat' first | exact Pick.here | apply Pick.skip | apply Pick.app); done); focus rfl) | (apply en_own; focus ((repeat' first | exact Pick.here | apply Pick.skip | apply Pick.app); done); focus rfl) | (apply en_pick; focus ((repeat' first | exact Pick.here | apply Pick.skip | apply Pick.app); done)) | apply en_drop | apply en_app) <;> fail)
          · have e : sideI mid u = -1 := by unfold sideI; rw [if_neg e1, if_neg e2]
            rw [e] at hsd
            rw [if_pos (by simp; omega)] at s2
            rw [if_neg (by simpa using e1), List.append_nil] at s0
            rw [if_neg (by simpa using e2), List.append_nil] at s1
            generalize lowL mid (l.take i) = l0 at *
            generalize highL mid (l.take i) = l1 at *
            generalize ownL mid (l.take i) = l2 at *
            (repeat first | refine G_seq ?_ | refine G_skip ?_ | refine G_endblk ?_ | refine G_block ?_ | refine G_exit rfl ?_)
            refine G_region ?_
            (first | refine GO_q rfl rfl (ev_indexAddrN rfl rfl (by first | omega | (simp; done) | (simp; omega))) ?_ | refine GO_q rfl rfl (ev_indexAddr rfl rfl (by first | omega | (simp; done) | (simp; omega)) (by first | omega | (simp; done) | (simp; omega))) ?_)
            refine GO_q rfl rfl (ev_loadN rfl (by repeat' first | exact LdN.blk rfl | assumption | apply LdN.skip | apply LdN.app)) ?_
            refine GO_eff rfl rfl eff_alloc ?_; rintro _ _ ⟨b12, rfl, rfl⟩
            refine GO_eff rfl rfl (eff_storeN rfl rfl rfl rfl (by repeat' first | exact Upd.here rfl | apply Upd.skip | apply Upd.app)) ?_; rintro _ _ ⟨rfl, rfl⟩
            refine GO_nil ?_
            (repeat first | refine G_seq ?_ | refine G_skip ?_ | refine G_endblk ?_ | refine G_block ?_ | refine G_exit rfl ?_)
            refine G_region ?_
            refine GO_q rfl rfl (ev_move rfl) ?_
            refine GO_q rfl rfl (ev_loadN rfl (by repeat' first | exact LdN.blk rfl | assumption | apply LdN.skip | apply LdN.app)) ?_
            refine GO_eff rfl rfl (eff_call rfl (hsd _ (by repeat' first | exact Ld.blk rfl | assumption | apply Ld.skip | apply Ld.app))) ?_; rintro _ _ ⟨rfl, rfl⟩
            refine GO_q rfl rfl (ev_assign rfl) ?_
            refine GO_nil ?_
            (repeat first | refine G_seq ?_ | refine G_skip ?_ | refine G_endblk ?_ | refine G_block ?_ | refine G_exit rfl ?_)
            refine G_region ?_
            refine GO_q rfl rfl (ev_move rfl) ?_
            refine GO_q rfl rfl (ev_geq rfl rfl) ?_
            refine GO_nil ?_
            (repeat first | refine G_seq ?_ | refine G_skip ?_ | refine G_endblk ?_ | refine G_block ?_ | refine G_exit rfl ?_)
            refine G_cond_f rfl rfl ?_
            (repeat first | refine G_seq ?_ | refine G_skip ?_ | refine G_endblk ?_ | refine G_block ?_ | refine G_exit rfl ?_)
            refine G_region ?_
            refine GO_q rfl rfl (ev_move rfl) ?_
            refine GO_q rfl rfl (ev_loadN rfl (by repeat' first | exact LdN.blk rfl | assumption | apply LdN.skip | apply LdN.app)) ?_
            refine GO_eff rfl rfl (eff_buildSlice1 (by rfl) rfl rfl) ?_; rintro _ _ ⟨b59, rfl, rfl⟩
            refine GO_eff rfl rfl (eff_append rfl rfl (by repeat' first | exact Pick.here | apply Pick.skip) (by repeat' first | exact Rc.blk rfl | assumption | apply Rc.skip) (one_all rfl) (by rfl) (by decide) (by first | omega | (simp; done) | (simp; omega)) (by first | omega | (simp; done) | (simp; omega))) ?_; rintro _ _ ⟨A60, c60, rfl, hc60, hm60, hn60, rfl⟩
            refine GO_q rfl rfl (ev_assign rfl) ?_
            refine GO_nil ?_
            (repeat first | refine G_seq ?_ | refine G_skip ?_ | refine G_endblk ?_ | refine G_block ?_ | refine G_exit rfl ?_)
            refine G_region ?_
            (first | refine GO_q rfl rfl (ev_addN (q := 1) rfl rfl (by first | omega | (simp; done) | (simp; omega))) ?_ | refine GO_q rfl rfl (ev_add rfl rfl (by first | omega | (simp; done) | (simp; omega))) ?_)
            refine GO_q rfl rfl (ev_move rfl) ?_
            refine GO_nil ?_
            (repeat first | refine G_seq ?_ | refine G_skip ?_ | refine G_endblk ?_ | refine G_block ?_ | refine G_exit rfl ?_)
            refine G_round (i + 1, (A0, c0), (A1, c1), (A60, c60)) ⟨by simp only; omega, ⟨by simp only [s0]; exact u1, by simp only [s0]; exact u2⟩, ⟨by simp only [s1]; exact v1, by simp only [s1]; exact v2⟩, ⟨fun _ => hn60 (by omega), by simp only [s2]; simp only [List.length_append, List.length_singleton]; omega⟩⟩ (by simp only; omega) ⟨rfl, rfl, by simp only [s2, List.length_append, List.length_singleton]; rfl, rfl, rfl, rfl, trivial⟩ ?_
            simp only [s0, s1, s2, List.length_append, List.length_singleton]
            rw [← flat_snoc]
            exact (by (repeat first | exact en_refl | (apply en_blk; focus ((repeat' first | exact Pick.here | apply Pick.skip | apply Pick.app); done); focus rfl) | (apply en_own; focus ((repeat' first | exact Pick.here | apply Pick.skip | apply Pick.app); done); focus rfl) | (apply en_pick; focus ((repeat' first | exact Pick.here | apply Pick.skip | apply Pick.app); done)) | apply en_drop | apply en_app) <;> fail)
      · have e0 : i = n := by omega
        subst e0
        rw [List.take_of_length_le (by omega)] at *
        have r0 : ∀ M, Rd (own 24 3 A0 (lowL mid l).length c0 (flat (lowL mid l)) :: M) A0 (lowL mid l).length (lowL mid l) := fun M => Rc.own (flat_length _) u1
        have r1 : ∀ M, Rd (own 24 3 A1 (highL mid l).length c1 (flat (highL mid l)) :: M) A1 (highL mid l).length (highL mid l) := fun M => Rc.own (flat_length _) v1
        have r2 : ∀ M, Rd (own 24 3 A2 (ownL mid l).length c2 (flat (ownL mid l)) :: M) A2 (ownL mid l).length (ownL mid l) := fun M => Rc.own (flat_length _) w1
        have k1' : 2 * (lowL mid l).length ≤ l.length := k1
        have k2' : 2 * (highL mid l).length ≤ l.length := k2
        have x0 := low_len mid l
        have x1 := high_len mid l
        have x2 := own_len' mid l
        have i0 := fun M h => ih (lowL mid l).length (by omega) A0 (lowL mid l).length c0 (lowL mid l) M (Nat.le_refl _) h (by omega) u2 (fun s hs => hf s ((List.mem_filter.1 hs).1)) (hnd.filter _)
        have i1 := fun M h => ih (highL mid l).length (by omega) A1 (highL mid l).length c1 (highL mid l) M (Nat.le_refl _) h (by omega) v2 (fun s hs => hf s ((List.mem_filter.1 hs).1)) (hnd.filter _)
        (repeat first | refine G_seq ?_ | refine G_skip ?_ | refine G_endblk ?_ | refine G_block ?_ | refine G_exit rfl ?_)
        (repeat first | refine G_seq ?_ | refine G_skip ?_ | refine G_endblk ?_ | refine G_block ?_ | refine G_exit rfl ?_)
        refine G_draw (.q 0 (.q 1 (.q 2 (.q 4 (.q 5 (.e 3 (.e 6 (.q 7 (.q 8 (.q 9 (.e 10 .nil))))))))))) (by kernel_rfl) (by kernel_rfl) ?_
        refine RS_m retB_noPanic rfl rfl rfl rfl (ev_move rfl) ?_
        refine RS_m retB_noPanic rfl rfl rfl rfl (ev_indexAddrA rfl rfl (by first | omega | (simp; done) | (simp; omega)) (by first | omega | (simp; done) | (simp; omega))) ?_
        refine RS_q retB_noPanic rfl rfl rfl rfl (ev_load rfl (by repeat' first | exact Ld.blk rfl | assumption | apply Ld.skip | apply Ld.app)) ?_
        refine RS_m retB_noPanic rfl rfl rfl rfl (ev_indexAddrA rfl rfl (by first | omega | (simp; done) | (simp; omega)) (by first | omega | (simp; done) | (simp; omega))) ?_
        refine RS_q retB_noPanic rfl rfl rfl rfl (ev_load rfl (by repeat' first | exact Ld.blk rfl | assumption | apply Ld.skip | apply Ld.app)) ?_
        refine RS_e (RE_eff rfl rfl rfl (eff_call rfl (i0 _ (by repeat' first | exact r0 _ | apply Rd.skip))) ?_); rintro _ _ ⟨T0, ⟨o0, p0, q0⟩, rfl, rfl⟩; refine ⟨_, fun _ s => s, (by first | ((repeat first | exact fun _ s => s | apply en_keep | apply en_drop | apply en_app) <;> fail) | ((repeat first | exact en_refl | (apply en_blk; focus ((repeat' first | exact Pick.here | apply Pick.skip | apply Pick.app); done); focus rfl) | (apply en_own; focus ((repeat' first | exact Pick.here | apply Pick.skip | apply Pick.app); done); focus rfl) | (apply en_pick; focus ((repeat' first | exact Pick.here | apply Pick.skip | apply Pick.app); done)) | apply en_drop | apply en_app) <;> fail)), ?_⟩
        refine RS_e (RE_eff rfl rfl rfl (eff_call rfl (i1 _ (by repeat' first | exact r1 _ | apply Rd.skip))) ?_); rintro _ _ ⟨T1, ⟨o1, p1, q1⟩, rfl, rfl⟩; refine ⟨_, fun _ s => s, (by first | ((repeat first | exact fun _ s => s | apply en_keep | apply en_drop | apply en_app) <;> fail) | ((repeat first | exact en_refl | (apply en_blk; focus ((repeat' first | exact Pick.here | apply Pick.skip | apply Pick.app); done); focus rfl) | (apply en_own; focus ((repeat' first | exact Pick.here | apply Pick.skip | apply Pick.app); done); focus rfl) | (apply en_pick; focus ((repeat' first | exact Pick.here | apply Pick.skip | apply Pick.app); done)) | apply en_drop | apply en_app) <;> fail)), ?_⟩
        refine RS_m retB_noPanic rfl rfl rfl rfl (ev_buildA rfl rfl) ?_
        (first | refine RS_m retB_noPanic rfl rfl rfl rfl (ev_nilCheck rfl) ?_ | refine RS_m retB_noPanic rfl rfl rfl rfl (ev_nilCheckF (by simp) rfl) ?_)
        refine RS_m retB_noPanic rfl rfl rfl rfl (ev_fieldAddr rfl) ?_
        refine RS_e (RE_last (by kernel_rfl) rfl rfl rfl (eff_storeN rfl rfl rfl rfl (by repeat' first | exact Upd.here rfl | apply Upd.skip | apply Upd.app)) ?_); rintro _ _ ⟨rfl, rfl⟩
        have z0 := q0.length_eq
        have z1 := q1.length_eq
        have z3 := o0.size
        have z4 := o1.size
        have z5 : (srtO Pt.less (ownL mid l)).length = (ownL mid l).length := srtO_length _
        (repeat first | refine G_seq ?_ | refine G_skip ?_ | refine G_endblk ?_ | refine G_block ?_ | refine G_exit rfl ?_)
        refine G_region ?_
        refine GO_q rfl rfl (ev_move rfl) ?_
        refine GO_q rfl rfl (ev_move rfl) ?_
        refine GO_eff rfl rfl (eff_call rfl (Ctr.pick (by repeat' first | exact Pick.here | apply Pick.skip | apply Pick.app) (keep_ctr b37 mid none none 0 0 0 0 T0.addr T1.addr 0 A2 (ownL mid l).length c2 (ownL mid l) _ (by repeat' first | exact r2 _ | apply Rd.skip) (by omega) w2))) ?_; rintro _ _ ⟨A', c', C', d', rfl, ⟨y1, y2⟩, rfl⟩
        refine GO_eff rfl rfl (eff_call rfl (Ctr.pre (M := itM b37 mid A' c' (srtO Pt.less (ownL mid l)) C' d' (srtO Pt.ends (ownL mid l)) 0 T0 T1 (F :: L)) (by (repeat first | exact en_refl | (apply en_blk; focus ((repeat' first | exact Pick.here | apply Pick.skip | apply Pick.app); done); focus rfl) | (apply en_own; focus ((repeat' first | exact Pick.here | apply Pick.skip | apply Pick.app); done); focus rfl) | (apply en_pick; focus ((repeat' first | exact Pick.here | apply Pick.skip | apply Pick.app); done)) | apply en_drop | apply en_app) <;> fail) (note_ctr ⟨y1, y2, p0, p1⟩ b37 mid 0 _ (by omega) (by omega) (by omega)))) ?_; rintro _ _ ⟨rfl, rfl⟩
        refine GO_q rfl rfl (ev_assign rfl) ?_
        refine GO_nil ?_
        have hb := build_ok (b := b37) (A := A') (c := c') (B := C') (d := d') hf hnd (by omega) hm' o0 o1 q0 q1 rfl
        (repeat first | refine G_seq ?_ | refine G_skip ?_ | refine G_endblk ?_ | refine G_block ?_ | refine G_exit rfl ?_)
        exact G_ret (L' := itH (.node b37 mid A' c' (srtO Pt.less (ownL mid l)) C' d' (srtO Pt.ends (ownL mid l)) ((srtO Pt.less (ownL mid l)).length + T0.size + T1.size) T0 T1) :: L) rfl (.tmp rfl .nil) (fun h s => (en_it (M := F :: L) (fun _ s => s) h s).swap) ⟨_, ⟨hb.1, ⟨⟨y1, y2⟩, p0, p1⟩, hb.2⟩, rfl, rfl⟩
/-- A node as it should be, or what is built anew in its place. -/
theorem even_ctr {A : Option Addr} {c : Nat} {p : List Pt} {C : Option Addr} {d : Nat} {q : List Pt} {lo hi : IT} (f : Fit A c p C d q lo hi) (b : Nat) (mid : Int) (m : Nat) (L : List HP) (hk : IT.kok mid p q lo.spans hi.spans) (hlo : lo.ok) (hhi : hi.ok) (hn : p.length + lo.spans.length + hi.spans.length ≤ 100000) (l : List Pt) (hl : (p ++ (lo.spans ++ hi.spans)).Perm l) :
    Ctr Tryz.prog 75 #[.pointer (some ⟨b, 0, none⟩)] (itM b mid A c p C d q m lo hi L) fun v L' => MadeI l L v L' := by
  have z3 := hlo.size
  have z4 := hhi.size
  obtain ⟨n, hN⟩ : ∃ n, n = p.length + lo.size + hi.size := ⟨_, rfl⟩
  have hno := fun M => note_ctr f b mid m M (by omega) (by omega) (by omega)
  rw [← hN] at hno
  have hin := fun M => itM_in f b mid n M
  have hql : q.length = p.length := by rw [hk.2.1, srtO_length]
  have hhv := fun M h => heavy_ctr b mid A c p C d q n lo hi M h (by omega)
  have hsp := fun M h => spans_ctr (.node b mid A c p C d q n lo hi) M h (by simp only [IT.spans, List.length_append]; omega)
  have hspp : (IT.node b mid A c p C d q n lo hi).spans = p ++ (lo.spans ++ hi.spans) := rfl
  rw [hspp] at hsp
  have hfair : ∀ s ∈ p ++ (lo.spans ++ hi.spans), s.x ≤ s.y := fun s hs => by
    rcases List.mem_append.1 hs with h | h
    · have := hk.2.2.1 s h; omega
    · rcases List.mem_append.1 h with h | h
      · exact hlo.fair s h
      · exact hhi.fair s h
  have hnd : (p ++ (lo.spans ++ hi.spans)).Nodup := by
    refine List.nodup_append.2 ⟨hk.1.nodup sto_less, List.nodup_append.2 ⟨hlo.nodup, hhi.nodup, fun s hs t ht e => ?_⟩, fun s hs t ht e => ?_⟩
    · subst e
      have := hk.2.2.2.1 s hs; have := hk.2.2.2.2 s ht; have := hlo.fair s hs
      omega
    · subst e
      have := hk.2.2.1 s hs
      rcases List.mem_append.1 ht with ht | ht
      · have := hk.2.2.2.1 s ht; omega
      · have := hk.2.2.2.2 s ht; omega
  have hbl := fun A n c M h1 h2 h3 => build_ctr n A n c (p ++ (lo.spans ++ hi.spans)) M (Nat.le_refl _) h1 h2 h3 hfair hnd
  have hgen : (p ++ (lo.spans ++ hi.spans)).length ≤ 100000 := by simp only [List.length_append]; omega
  by_cases hv : max lo.size hi.size ≤ 3 * n / 4 ∧ 0 < n
  · rw [decide_eq_false (by omega : ¬ 3 * n / 4 < max lo.size hi.size)] at hhv
    have hn9 : Ld (itM b mid A c p C d q n lo hi L) ⟨b, 0 + 5, none⟩ (.int .i64 (n : Nat)) := (itM_in f b mid n L).f.f_n
    have hok : (IT.node b mid A c p C d q n lo hi).ok := ⟨hk, hN, hv.1, hv.2, hlo, hhi⟩
    refine Ctr_of (fn := Tryz.f75) (n := 17) Tryz.func75 rfl rfl rfl ?_
    intro g F
    (repeat first | refine G_seq ?_ | refine G_skip ?_ | refine G_endblk ?_ | refine G_block ?_ | refine G_exit rfl ?_)
    refine G_region ?_
    refine GO_q rfl rfl (ev_assign rfl) ?_
    refine GO_nil ?_
    (repeat first | refine G_seq ?_ | refine G_skip ?_ | refine G_endblk ?_ | refine G_block ?_ | refine G_exit rfl ?_)
    refine G_region ?_
    refine GO_q rfl rfl (ev_move rfl) ?_
    refine GO_eff rfl rfl (eff_call rfl (Ctr.pre (M := itM b mid A c p C d q m lo hi (F :: L)) (by unfold itM; exact (by (repeat first | exact en_refl | (apply en_blk; focus ((repeat' first | exact Pick.here | apply Pick.skip | apply Pick.app); done); focus rfl) | (apply en_own; focus ((repeat' first | exact Pick.here | apply Pick.skip | apply Pick.app); done); focus rfl) | (apply en_pick; focus ((repeat' first | exact Pick.here | apply Pick.skip | apply Pick.app); done)) | apply en_drop | apply en_app) <;> fail)) (hno _))) ?_; rintro _ _ ⟨rfl, rfl⟩
    refine GO_eff rfl rfl (eff_call rfl (hhv _ (hin _))) ?_; rintro _ _ ⟨rfl, rfl⟩
    refine GO_q rfl rfl (ev_move rfl) ?_
    refine GO_yes rfl rfl rfl rfl ?_
    refine GO_q rfl rfl (ev_move rfl) ?_
    refine GO_yes rfl rfl rfl rfl ?_
    (first | refine GO_q rfl rfl (ev_nilCheck rfl) ?_ | refine GO_q rfl rfl (ev_nilCheckF (by simp) rfl) ?_)
    refine GO_yes rfl rfl rfl rfl ?_
    refine GO_q rfl rfl (ev_fieldAddr rfl) ?_
    refine GO_yes rfl rfl rfl rfl ?_
    refine GO_q rfl rfl (ev_load rfl ((itM_in f b mid n (F :: L)).f.f_n)) ?_
    refine GO_yes rfl rfl rfl rfl ?_
    refine GO_q rfl rfl (ev_eql rfl rfl) ?_
    refine GO_q rfl rfl (ev_pick_f rfl rfl rfl) ?_
    refine GO_nil ?_
    (repeat first | refine G_seq ?_ | refine G_skip ?_ | refine G_endblk ?_ | refine G_block ?_ | refine G_exit rfl ?_)
    refine G_cond_f rfl (decide_eq_false (by omega)) ?_
    (repeat first | refine G_seq ?_ | refine G_skip ?_ | refine G_endblk ?_ | refine G_block ?_ | refine G_exit rfl ?_)
    refine G_region ?_
    refine GO_q rfl rfl (ev_move rfl) ?_
    refine GO_q rfl rfl (ev_assign rfl) ?_
    refine GO_nil ?_
    (repeat first | refine G_seq ?_ | refine G_skip ?_ | refine G_endblk ?_ | refine G_block ?_ | refine G_exit rfl ?_)
    exact G_ret (L' := itH (.node b mid A c p C d q n lo hi) :: L) rfl (.tmp rfl .nil) (fun h s => (en_it (M := F :: L) (fun _ s => s) h s).swap) ⟨_, ⟨hok, ⟨⟨f.p, f.q⟩, f.lo, f.hi⟩, hl⟩, rfl, rfl⟩
  · have hsp' := fun M h => (hsp M h).made
    generalize p ++ (lo.spans ++ hi.spans) = k at *
    by_cases hw : max lo.size hi.size ≤ 3 * n / 4
    · rw [decide_eq_false (by omega : ¬ 3 * n / 4 < max lo.size hi.size)] at hhv
      refine Ctr_of (fn := Tryz.f75) (n := 17) Tryz.func75 rfl rfl rfl ?_
      intro g F
      (repeat first | refine G_seq ?_ | refine G_skip ?_ | refine G_endblk ?_ | refine G_block ?_ | refine G_exit rfl ?_)
      refine G_region ?_
      refine GO_q rfl rfl (ev_assign rfl) ?_
      refine GO_nil ?_
      (repeat first | refine G_seq ?_ | refine G_skip ?_ | refine G_endblk ?_ | refine G_block ?_ | refine G_exit rfl ?_)
      refine G_region ?_
      refine GO_q rfl rfl (ev_move rfl) ?_
      refine GO_eff rfl rfl (eff_call rfl (Ctr.pre (M := itM b mid A c p C d q m lo hi (F :: L)) (by unfold itM; exact (by (repeat first | exact en_refl | (apply en_blk; focus ((repeat' first | exact Pick.here | apply Pick.skip | apply Pick.app); done); focus rfl) | (apply en_own; focus ((repeat' first | exact Pick.here | apply Pick.skip | apply Pick.app); done); focus rfl) | (apply en_pick; focus ((repeat' first | exact Pick.here | apply Pick.skip | apply Pick.app); done)) | apply en_drop | apply en_app) <;> fail)) (hno _))) ?_; rintro _ _ ⟨rfl, rfl⟩
      refine GO_eff rfl rfl (eff_call rfl (hhv _ (hin _))) ?_; rintro _ _ ⟨rfl, rfl⟩
      refine GO_q rfl rfl (ev_move rfl) ?_
      refine GO_yes rfl rfl rfl rfl ?_
      refine GO_q rfl rfl (ev_move rfl) ?_
      refine GO_yes rfl rfl rfl rfl ?_
      (first | refine GO_q rfl rfl (ev_nilCheck rfl) ?_ | refine GO_q rfl rfl (ev_nilCheckF (by simp) rfl) ?_)
      refine GO_yes rfl rfl rfl rfl ?_
      refine GO_q rfl rfl (ev_fieldAddr rfl) ?_
      refine GO_yes rfl rfl rfl rfl ?_
      refine GO_q rfl rfl (ev_load rfl ((itM_in f b mid n (F :: L)).f.f_n)) ?_
      refine GO_yes rfl rfl rfl rfl ?_
      refine GO_q rfl rfl (ev_eql rfl rfl) ?_
      refine GO_q rfl rfl (ev_pick_f rfl rfl rfl) ?_
      refine GO_nil ?_
      (repeat first | refine G_seq ?_ | refine G_skip ?_ | refine G_endblk ?_ | refine G_block ?_ | refine G_exit rfl ?_)
      refine G_cond_t rfl (decide_eq_true (by omega)) ?_
      (repeat first | refine G_seq ?_ | refine G_skip ?_ | refine G_endblk ?_ | refine G_block ?_ | refine G_exit rfl ?_)
      refine G_region ?_
      refine GO_q rfl rfl (ev_move rfl) ?_
      refine GO_eff rfl rfl (eff_call rfl (hsp' _ (hin _))) ?_; rintro _ _ ⟨A1, c1, rfl, h1, h2, h3, rfl⟩
      refine GO_eff rfl rfl (eff_call rfl (hbl A1 k.length c1 _ (Rc.own (flat_length _) h1) hgen h2)) ?_; rintro _ _ ⟨T, ⟨o1, o2, o3⟩, rfl, rfl⟩
      refine GO_q rfl rfl (ev_assign rfl) ?_
      refine GO_nil ?_
      (repeat first | refine G_seq ?_ | refine G_skip ?_ | refine G_endblk ?_ | refine G_block ?_ | refine G_exit rfl ?_)
      exact G_ret (L' := itH T :: L) rfl (.tmp rfl .nil) (by unfold itM; exact (by (repeat first | exact en_refl | (apply en_blk; focus ((repeat' first | exact Pick.here | apply Pick.skip | apply Pick.app); done); focus rfl) | (apply en_own; focus ((repeat' first | exact Pick.here | apply Pick.skip | apply Pick.app); done); focus rfl) | (apply en_pick; focus ((repeat' first | exact Pick.here | apply Pick.skip | apply Pick.app); done)) | apply en_drop | apply en_app) <;> fail)) ⟨_, ⟨o1, o2, o3.trans hl⟩, rfl, rfl⟩
    · rw [decide_eq_true (by omega : 3 * n / 4 < max lo.size hi.size)] at hhv
      refine Ctr_of (fn := Tryz.f75) (n := 17) Tryz.func75 rfl rfl rfl ?_
      intro g F
      (repeat first | refine G_seq ?_ | refine G_skip ?_ | refine G_endblk ?_ | refine G_block ?_ | refine G_exit rfl ?_)
      refine G_region ?_
      refine GO_q rfl rfl (ev_assign rfl) ?_
      refine GO_nil ?_
      (repeat first | refine G_seq ?_ | refine G_skip ?_ | refine G_endblk ?_ | refine G_block ?_ | refine G_exit rfl ?_)
      refine G_region ?_
      refine GO_q rfl rfl (ev_move rfl) ?_
      refine GO_eff rfl rfl (eff_call rfl (Ctr.pre (M := itM b mid A c p C d q m lo hi (F :: L)) (by unfold itM; exact (by (repeat first | exact en_refl | (apply en_blk; focus ((repeat' first | exact Pick.here | apply Pick.skip | apply Pick.app); done); focus rfl) | (apply en_own; focus ((repeat' first | exact Pick.here | apply Pick.skip | apply Pick.app); done); focus rfl) | (apply en_pick; focus ((repeat' first | exact Pick.here | apply Pick.skip | apply Pick.app); done)) | apply en_drop | apply en_app) <;> fail)) (hno _))) ?_; rintro _ _ ⟨rfl, rfl⟩
      refine GO_eff rfl rfl (eff_call rfl (hhv _ (hin _))) ?_; rintro _ _ ⟨rfl, rfl⟩
      refine GO_q rfl rfl (ev_move rfl) ?_
      refine GO_no rfl rfl rfl rfl ?_
      refine GO_no rfl rfl rfl rfl ?_
      refine GO_no rfl rfl rfl rfl ?_
      refine GO_no rfl rfl rfl rfl ?_
      refine GO_no rfl rfl rfl rfl ?_
      refine GO_q rfl rfl (ev_pick_t rfl rfl rfl) ?_
      refine GO_nil ?_
      (repeat first | refine G_seq ?_ | refine G_skip ?_ | refine G_endblk ?_ | refine G_block ?_ | refine G_exit rfl ?_)
      refine G_cond_t rfl rfl ?_
      (repeat first | refine G_seq ?_ | refine G_skip ?_ | refine G_endblk ?_ | refine G_block ?_ | refine G_exit rfl ?_)
      refine G_region ?_
      refine GO_q rfl rfl (ev_move rfl) ?_
      refine GO_eff rfl rfl (eff_call rfl (hsp' _ (hin _))) ?_; rintro _ _ ⟨A1, c1, rfl, h1, h2, h3, rfl⟩
      refine GO_eff rfl rfl (eff_call rfl (hbl A1 k.length c1 _ (Rc.own (flat_length _) h1) hgen h2)) ?_; rintro _ _ ⟨T, ⟨o1, o2, o3⟩, rfl, rfl⟩
      refine GO_q rfl rfl (ev_assign rfl) ?_
      refine GO_nil ?_
      (repeat first | refine G_seq ?_ | refine G_skip ?_ | refine G_endblk ?_ | refine G_block ?_ | refine G_exit rfl ?_)
      exact G_ret (L' := itH T :: L) rfl (.tmp rfl .nil) (by unfold itM; exact (by (repeat first | exact en_refl | (apply en_blk; focus ((repeat' first | exact Pick.here | apply Pick.skip | apply Pick.app); done); focus rfl) | (apply en_own; focus ((repeat' first | exact Pick.here | apply Pick.skip | apply Pick.app); done); focus rfl) | (apply en_pick; focus ((repeat' first | exact Pick.here | apply Pick.skip | apply Pick.app); done)) | apply en_drop | apply en_app) <;> fail)) ⟨_, ⟨o1, o2, o3.trans hl⟩, rfl, rfl⟩
end Go.Proofs.YtjnmpogolknkpaaGreat
/- A tree of middles: put, cut. -/
namespace Go.Proofs.YtjnmpogolknkpaaGreat
attribute [local irreducible] sat
set_option linter.unusedVariables false
set_option linter.unusedSimpArgs false
set_option maxRecDepth 100000

theorem Mid_ctr (a b : Int) (ha : -9223372036854775808 ≤ a ∧ a ≤ 9223372036854775807) (hb : -9223372036854775808 ≤ b ∧ b ≤ 9223372036854775807) (L : List HP) : Ctr Tryz.prog 70 #[.int .i64 a, .int .i64 b] L fun v L' => v = .int .i64 ((a + b) / 2) ∧ L' = L := fun g F w hw =>
  (mid_any a b ha hb w).mono fun e w' ⟨h1, h2⟩ => ⟨_, L, h1, ⟨rfl, rfl⟩, h2 ▸ hw⟩
theorem one_ok {b : Nat} {A : Option Addr} {c : Nat} {C : Option Addr} {d : Nat} {s : Pt} (h : s.x ≤ s.y) : (IT.node b ((s.x + s.y) / 2) A c (srtO Pt.less [s]) C d (srtO Pt.ends [s]) ((srtO Pt.less [s]).length + IT.nil.size + IT.nil.size) .nil .nil).ok ∧ (IT.node b ((s.x + s.y) / 2) A c (srtO Pt.less [s]) C d (srtO Pt.ends [s]) ((srtO Pt.less [s]).length + IT.nil.size + IT.nil.size) .nil .nil).spans.Perm [s] := by
  have e : (srtO Pt.less [s]).length = 1 := srtO_length _
  refine ⟨⟨keep_kok (by simp) (fun t ht => ?_) (by simp [IT.spans]) (by simp [IT.spans]), rfl, ?_, ?_, trivial, trivial⟩, ?_⟩
  · have : t = s := by simpa using ht
    subst this; omega
  · rw [e]; simp [IT.size]
  · rw [e]; simp [IT.size]
  · simp only [IT.spans, List.append_nil]; exact srtO_perm _
theorem fit_one {b : Nat} {mid : Int} {A : Option Addr} {c : Nat} {p : List Pt} {C : Option Addr} {d : Nat} {q : List Pt} {m : Nat} {lo hi : IT} (f : (IT.node b mid A c p C d q m lo hi).fit) : Fit A c p C d q lo hi := ⟨f.1.1, f.1.2, f.2.1, f.2.2⟩
theorem cutOF {P : Program} {f : FuncId} {args : Array Value} {L : List HP} {T : TypeId} {m : List Pt} (h : Ctr P f args L fun r L' => ∃ A' c', r = .tuple #[.slice A' m.length c', .bool true] ∧ (0 < m.length → ∃ b, A' = some ⟨b, 0, none⟩) ∧ L' = own T 3 A' m.length c' (flat m) :: L) : Ctr P f args L fun r L' => ∃ A' c', r = .tuple #[.slice A' m.length c', .bool true] ∧ OF A' m.length c' ∧ L' = own T 3 A' m.length c' (flat m) :: L :=
  h.post' fun v L' hm ⟨A', c', e1, e2, e3⟩ s => by
    subst e3
    have q := own.facts s
    exact ⟨_, ⟨A', c', e1, ⟨e2, q.2.1, q.2.2.1⟩, rfl⟩, s⟩
theorem put_ctr : ∀ (T : IT) (s : Pt) (L : List HP), T.ok → T.fit → s.x ≤ s.y → (-9223372036854775808 ≤ s.x ∧ s.x ≤ 9223372036854775807) → (-9223372036854775808 ≤ s.y ∧ s.y ≤ 9223372036854775807) → s ∉ T.spans → T.spans.length ≤ 90000 →
    Ctr Tryz.prog 48 #[.pointer T.addr, s.v] (itH T :: L) fun v L' => MadeI (s :: T.spans) L v L'
  | .nil, s, L, ho, hft, hs, hx, hy, hm, hn => by
    have hone := fun b A c C d => one_ok (b := b) (A := A) (c := c) (C := C) (d := d) hs
    refine Ctr_of (fn := Tryz.f48) (n := 57) Tryz.func48 rfl rfl rfl ?_
    intro g F
    (repeat first | refine G_seq ?_ | refine G_skip ?_ | refine G_endblk ?_ | refine G_block ?_ | refine G_exit rfl ?_)
    refine G_region ?_
    refine GO_eff rfl rfl (eff_box rfl) ?_; rintro _ _ ⟨b3, rfl, rfl⟩
    refine GO_q rfl rfl (ev_assign rfl) ?_
    refine GO_nil ?_
    (repeat first | refine G_seq ?_ | refine G_skip ?_ | refine G_endblk ?_ | refine G_block ?_ | refine G_exit rfl ?_)
    refine G_region ?_
    refine GO_q rfl rfl (ev_move rfl) ?_
    (first | refine GO_q rfl rfl (ev_eqlNil rfl rfl) ?_ | refine GO_q rfl rfl (ev_eqlPtr rfl rfl) ?_)
    refine GO_nil ?_
    (repeat first | refine G_seq ?_ | refine G_skip ?_ | refine G_endblk ?_ | refine G_block ?_ | refine G_exit rfl ?_)
    refine G_cond_t rfl rfl ?_
    (repeat first | refine G_seq ?_ | refine G_skip ?_ | refine G_endblk ?_ | refine G_block ?_ | refine G_exit rfl ?_)
    refine G_draw (.q 0 (.q 1 (.q 2 (.q 3 (.q 7 (.br 4 (.q 5 (.br 6 (.e 8 (.e 9 (.e 10 (.q 11 .nil)))) 8 (.e 6 (.e 9 (.e 10 (.q 11 .nil)))))) 8 (.e 4 (.q 5 (.e 6 (.e 9 (.e 10 (.q 11 .nil)))))))))))) (by kernel_rfl) (by kernel_rfl) ?_
    refine RS_m retB_noPanic rfl rfl rfl rfl (ev_fieldAddr rfl) ?_
    refine RS_q retB_noPanic rfl rfl rfl rfl (ev_load rfl (by repeat' first | exact Ld.blk rfl | assumption | apply Ld.skip | apply Ld.app)) ?_
    refine RS_m retB_noPanic rfl rfl rfl rfl (ev_fieldAddr rfl) ?_
    refine RS_q retB_noPanic rfl rfl rfl rfl (ev_load rfl (by repeat' first | exact Ld.blk rfl | assumption | apply Ld.skip | apply Ld.app)) ?_
    refine RS_q retB_noPanic rfl rfl rfl rfl (ev_loadN rfl (by repeat' first | exact LdN.blk rfl | assumption | apply LdN.skip | apply LdN.app)) ?_
    refine RS_br ?x128_0 ?x128_1
    case' x128_1 =>
      refine RE_eff rfl rfl rfl (eff_buildSlice1 (by rfl) rfl rfl) ?_; rintro _ _ ⟨b16, rfl, rfl⟩; refine ⟨_, fun _ s => s, (by first | ((repeat first | exact fun _ s => s | apply en_keep | apply en_drop | apply en_app) <;> fail) | ((repeat first | exact en_refl | (apply en_blk; focus ((repeat' first | exact Pick.here | apply Pick.skip | apply Pick.app); done); focus rfl) | (apply en_own; focus ((repeat' first | exact Pick.here | apply Pick.skip | apply Pick.app); done); focus rfl) | (apply en_pick; focus ((repeat' first | exact Pick.here | apply Pick.skip | apply Pick.app); done)) | apply en_drop | apply en_app) <;> fail)), ?_⟩
      refine RS_e (RE_eff rfl rfl rfl (eff_call rfl (Mid_ctr s.x s.y hx hy _)) ?_); rintro _ _ ⟨rfl, rfl⟩; refine ⟨_, fun _ s => s, (by first | ((repeat first | exact fun _ s => s | apply en_keep | apply en_drop | apply en_app) <;> fail) | ((repeat first | exact en_refl | (apply en_blk; focus ((repeat' first | exact Pick.here | apply Pick.skip | apply Pick.app); done); focus rfl) | (apply en_own; focus ((repeat' first | exact Pick.here | apply Pick.skip | apply Pick.app); done); focus rfl) | (apply en_pick; focus ((repeat' first | exact Pick.here | apply Pick.skip | apply Pick.app); done)) | apply en_drop | apply en_app) <;> fail)), ?_⟩
      refine RS_m retB_noPanic rfl rfl rfl rfl (ev_build rfl rfl) ?_
      refine RS_e (RE_eff rfl rfl rfl (eff_box rfl) ?_); rintro _ _ ⟨b14, rfl, rfl⟩; refine ⟨_, fun _ s => s, (by first | ((repeat first | exact fun _ s => s | apply en_keep | apply en_drop | apply en_app) <;> fail) | ((repeat first | exact en_refl | (apply en_blk; focus ((repeat' first | exact Pick.here | apply Pick.skip | apply Pick.app); done); focus rfl) | (apply en_own; focus ((repeat' first | exact Pick.here | apply Pick.skip | apply Pick.app); done); focus rfl) | (apply en_pick; focus ((repeat' first | exact Pick.here | apply Pick.skip | apply Pick.app); done)) | apply en_drop | apply en_app) <;> fail)), ?_⟩
      refine RS_e (RE_cmp (by kernel_rfl) rfl rfl rfl (eff_call rfl (Ctr.pick (by repeat' first | exact Pick.here | apply Pick.skip | apply Pick.app) (keep_ctr b14 ((s.x + s.y) / 2) none none 0 0 0 0 none none 0 (some ⟨b16, 0, none⟩) 1 1 [s] _ (by repeat' first | exact Rc.blk rfl | assumption | apply Rd.skip | apply Rd.app) (by omega) (Nat.le_refl _)))) ?_); rintro _ _ ⟨A', c', C', d', rfl, ⟨y1, y2⟩, rfl⟩
      refine RS_e (RE_cmp (by kernel_rfl) rfl rfl rfl (eff_call rfl (Ctr.pre (M := itM b14 ((s.x + s.y) / 2) A' c' (srtO Pt.less [s]) C' d' (srtO Pt.ends [s]) 0 .nil .nil (F :: L)) (by (repeat first | exact en_refl | apply en_nil' | (apply en_blk; focus ((repeat' first | exact Pick.here | apply Pick.skip | apply Pick.app); done); focus rfl) | (apply en_own; focus ((repeat' first | exact Pick.here | apply Pick.skip | apply Pick.app); done); focus rfl) | (apply en_pick; focus ((repeat' first | exact Pick.here | apply Pick.skip | apply Pick.app); done)) | apply en_drop | apply en_app) <;> fail) (note_ctr (lo := .nil) (hi := .nil) ⟨y1, y2, trivial, trivial⟩ b14 ((s.x + s.y) / 2) 0 _ (by rw [srtO_length]; simp) (by simp [IT.size]) (by simp [IT.size])))) ?_); rintro _ _ ⟨rfl, rfl⟩
      refine RS_m retB_noPanic rfl rfl rfl rfl (ev_assign rfl) ?_
      refine RS_nil ?_
    case' x128_0 =>
      refine RE_eff rfl rfl rfl (eff_call rfl (Mid_ctr s.x s.y hx hy _)) ?_; rintro _ _ ⟨rfl, rfl⟩; refine ⟨_, fun _ s => s, (by first | ((repeat first | exact fun _ s => s | apply en_keep | apply en_drop | apply en_app) <;> fail) | ((repeat first | exact en_refl | (apply en_blk; focus ((repeat' first | exact Pick.here | apply Pick.skip | apply Pick.app); done); focus rfl) | (apply en_own; focus ((repeat' first | exact Pick.here | apply Pick.skip | apply Pick.app); done); focus rfl) | (apply en_pick; focus ((repeat' first | exact Pick.here | apply Pick.skip | apply Pick.app); done)) | apply en_drop | apply en_app) <;> fail)), ?_⟩
      refine RS_m retB_noPanic rfl rfl rfl rfl (ev_build rfl rfl) ?_
      refine RS_br ?x129_0 ?x129_1
      case' x129_1 =>
        refine RE_eff rfl rfl rfl (eff_buildSlice1 (by rfl) rfl rfl) ?_; rintro _ _ ⟨b16, rfl, rfl⟩; refine ⟨_, fun _ s => s, (by first | ((repeat first | exact fun _ s => s | apply en_keep | apply en_drop | apply en_app) <;> fail) | ((repeat first | exact en_refl | (apply en_blk; focus ((repeat' first | exact Pick.here | apply Pick.skip | apply Pick.app); done); focus rfl) | (apply en_own; focus ((repeat' first | exact Pick.here | apply Pick.skip | apply Pick.app); done); focus rfl) | (apply en_pick; focus ((repeat' first | exact Pick.here | apply Pick.skip | apply Pick.app); done)) | apply en_drop | apply en_app) <;> fail)), ?_⟩
        refine RS_e (RE_eff rfl rfl rfl (eff_box rfl) ?_); rintro _ _ ⟨b14, rfl, rfl⟩; refine ⟨_, fun _ s => s, (by first | ((repeat first | exact fun _ s => s | apply en_keep | apply en_drop | apply en_app) <;> fail) | ((repeat first | exact en_refl | (apply en_blk; focus ((repeat' first | exact Pick.here | apply Pick.skip | apply Pick.app); done); focus rfl) | (apply en_own; focus ((repeat' first | exact Pick.here | apply Pick.skip | apply Pick.app); done); focus rfl) | (apply en_pick; focus ((repeat' first | exact Pick.here | apply Pick.skip | apply Pick.app); done)) | apply en_drop | apply en_app) <;> fail)), ?_⟩
        refine RS_e (RE_cmp (by kernel_rfl) rfl rfl rfl (eff_call rfl (Ctr.pick (by repeat' first | exact Pick.here | apply Pick.skip | apply Pick.app) (keep_ctr b14 ((s.x + s.y) / 2) none none 0 0 0 0 none none 0 (some ⟨b16, 0, none⟩) 1 1 [s] _ (by repeat' first | exact Rc.blk rfl | assumption | apply Rd.skip | apply Rd.app) (by omega) (Nat.le_refl _)))) ?_); rintro _ _ ⟨A', c', C', d', rfl, ⟨y1, y2⟩, rfl⟩
        refine RS_e (RE_cmp (by kernel_rfl) rfl rfl rfl (eff_call rfl (Ctr.pre (M := itM b14 ((s.x + s.y) / 2) A' c' (srtO Pt.less [s]) C' d' (srtO Pt.ends [s]) 0 .nil .nil (F :: L)) (by (repeat first | exact en_refl | apply en_nil' | (apply en_blk; focus ((repeat' first | exact Pick.here | apply Pick.skip | apply Pick.app); done); focus rfl) | (apply en_own; focus ((repeat' first | exact Pick.here | apply Pick.skip | apply Pick.app); done); focus rfl) | (apply en_pick; focus ((repeat' first | exact Pick.here | apply Pick.skip | apply Pick.app); done)) | apply en_drop | apply en_app) <;> fail) (note_ctr (lo := .nil) (hi := .nil) ⟨y1, y2, trivial, trivial⟩ b14 ((s.x + s.y) / 2) 0 _ (by rw [srtO_length]; simp) (by simp [IT.size]) (by simp [IT.size])))) ?_); rintro _ _ ⟨rfl, rfl⟩
        refine RS_m retB_noPanic rfl rfl rfl rfl (ev_assign rfl) ?_
        refine RS_nil ?_
      case' x129_0 =>
        refine RE_eff rfl rfl rfl (eff_box rfl) ?_; rintro _ _ ⟨b14, rfl, rfl⟩; refine ⟨_, fun _ s => s, (by first | ((repeat first | exact fun _ s => s | apply en_keep | apply en_drop | apply en_app) <;> fail) | ((repeat first | exact en_refl | (apply en_blk; focus ((repeat' first | exact Pick.here | apply Pick.skip | apply Pick.app); done); focus rfl) | (apply en_own; focus ((repeat' first | exact Pick.here | apply Pick.skip | apply Pick.app); done); focus rfl) | (apply en_pick; focus ((repeat' first | exact Pick.here | apply Pick.skip | apply Pick.app); done)) | apply en_drop | apply en_app) <;> fail)), ?_⟩
        refine RS_e (RE_eff rfl rfl rfl (eff_buildSlice1 (by rfl) rfl rfl) ?_); rintro _ _ ⟨b16, rfl, rfl⟩; refine ⟨_, fun _ s => s, (by first | ((repeat first | exact fun _ s => s | apply en_keep | apply en_drop | apply en_app) <;> fail) | ((repeat first | exact en_refl | (apply en_blk; focus ((repeat' first | exact Pick.here | apply Pick.skip | apply Pick.app); done); focus rfl) | (apply en_own; focus ((repeat' first | exact Pick.here | apply Pick.skip | apply Pick.app); done); focus rfl) | (apply en_pick; focus ((repeat' first | exact Pick.here | apply Pick.skip | apply Pick.app); done)) | apply en_drop | apply en_app) <;> fail)), ?_⟩
        refine RS_e (RE_cmp (by kernel_rfl) rfl rfl rfl (eff_call rfl (Ctr.pick (by repeat' first | exact Pick.here | apply Pick.skip | apply Pick.app) (keep_ctr b14 ((s.x + s.y) / 2) none none 0 0 0 0 none none 0 (some ⟨b16, 0, none⟩) 1 1 [s] _ (by repeat' first | exact Rc.blk rfl | assumption | apply Rd.skip | apply Rd.app) (by omega) (Nat.le_refl _)))) ?_); rintro _ _ ⟨A', c', C', d', rfl, ⟨y1, y2⟩, rfl⟩
        refine RS_e (RE_cmp (by kernel_rfl) rfl rfl rfl (eff_call rfl (Ctr.pre (M := itM b14 ((s.x + s.y) / 2) A' c' (srtO Pt.less [s]) C' d' (srtO Pt.ends [s]) 0 .nil .nil (F :: L)) (by (repeat first | exact en_refl | apply en_nil' | (apply en_blk; focus ((repeat' first | exact Pick.here | apply Pick.skip | apply Pick.app); done); focus rfl) | (apply en_own; focus ((repeat' first | exact Pick.here | apply Pick.skip | apply Pick.app); done); focus rfl) | (apply en_pick; focus ((repeat' first | exact Pick.here | apply Pick.skip | apply Pick.app); done)) | apply en_drop | apply en_app) <;> fail) (note_ctr (lo := .nil) (hi := .nil) ⟨y1, y2, trivial, trivial⟩ b14 ((s.x + s.y) / 2) 0 _ (by rw [srtO_length]; simp) (by simp [IT.size]) (by simp [IT.size])))) ?_); rintro _ _ ⟨rfl, rfl⟩
        refine RS_m retB_noPanic rfl rfl rfl rfl (ev_assign rfl) ?_
        refine RS_nil ?_
    all_goals
      (repeat first | refine G_seq ?_ | refine G_skip ?_ | refine G_endblk ?_ | refine G_block ?_ | refine G_exit rfl ?_)
      exact G_ret (L' := itH (.node b14 ((s.x + s.y) / 2) A' c' (srtO Pt.less [s]) C' d' (srtO Pt.ends [s]) ((srtO Pt.less [s]).length + IT.nil.size + IT.nil.size) .nil .nil) :: L) rfl (.tmp rfl .nil) (fun h s => (en_it (M := F :: L) (fun _ s => s) h s).swap) ⟨_, ⟨(hone _ _ _ _ _).1, ⟨⟨y1, y2⟩, trivial, trivial⟩, (hone _ _ _ _ _).2⟩, rfl, rfl⟩
  | .node b mid A c p C d q m lo hi, s, L, ho, hft, hs, hx, hy, hm, hn => by
    have ih1 := fun M h1 h2 => put_ctr lo s M h1 hft.2.1 hs hx hy h2
    have ih2 := fun M h1 h2 => put_ctr hi s M h1 hft.2.2 hs hx hy h2
    have hft' := fit_one hft
    obtain ⟨hk, e1, e2, e3, o1, o2⟩ := ho
    have hk' := hk
    obtain ⟨a1, a2, a3, a4, a5⟩ := hk'
    have hasq := kok_asc hk
    have hql : q.length = p.length := by rw [a2, srtO_length]
    simp only [IT.spans, List.mem_append, not_or] at hm
    simp only [IT.spans, List.length_append] at hn
    have ep : (IT.node b mid A c p C d q m lo hi).spans = p ++ (lo.spans ++ hi.spans) := rfl
    rw [ep]
    have iin := fun M => itM_in hft' b mid m M
    have hsd := fun M => side_ctr b mid s M
    refine Ctr.open (ι := Unit) (Fa := fun _ => True) (N := fun _ => itL b mid A c p C d q m lo hi) (fun _ h => ⟨(), trivial, h⟩) fun _ _ => ?_
    show Ctr _ _ _ (blk b 92 (inC mid A p.length c C q.length d lo.addr hi.addr m) :: own 24 3 A p.length c (flat p) :: own 24 3 C q.length d (flat q) :: itH lo :: itH hi :: L) _
    by_cases c1 : s.y < mid
    · have e : sideI mid s = 0 := by unfold sideI; rw [if_pos c1]
      rw [e] at hsd
      refine Ctr_of (fn := Tryz.f48) (n := 57) Tryz.func48 rfl rfl rfl ?_
      intro g F
      (repeat first | refine G_seq ?_ | refine G_skip ?_ | refine G_endblk ?_ | refine G_block ?_ | refine G_exit rfl ?_)
      refine G_region ?_
      refine GO_eff rfl rfl (eff_box rfl) ?_; rintro _ _ ⟨b3, rfl, rfl⟩
      refine GO_q rfl rfl (ev_assign rfl) ?_
      refine GO_nil ?_
      (repeat first | refine G_seq ?_ | refine G_skip ?_ | refine G_endblk ?_ | refine G_block ?_ | refine G_exit rfl ?_)
      refine G_region ?_
      refine GO_q rfl rfl (ev_move rfl) ?_
      (first | refine GO_q rfl rfl (ev_eqlNil rfl rfl) ?_ | refine GO_q rfl rfl (ev_eqlPtr rfl rfl) ?_)
      refine GO_nil ?_
      (repeat first | refine G_seq ?_ | refine G_skip ?_ | refine G_endblk ?_ | refine G_block ?_ | refine G_exit rfl ?_)
      refine G_cond_f rfl rfl ?_
      (repeat first | refine G_seq ?_ | refine G_skip ?_ | refine G_endblk ?_ | refine G_block ?_ | refine G_exit rfl ?_)
      refine G_region ?_
      refine GO_q rfl rfl (ev_move rfl) ?_
      refine GO_q rfl rfl (ev_loadN rfl (by repeat' first | exact LdN.blk rfl | assumption | apply LdN.skip | apply LdN.app)) ?_
      refine GO_eff rfl rfl (eff_call rfl (hsd _ (by repeat' first | exact Ld.blk rfl | assumption | apply Ld.skip | apply Ld.app))) ?_; rintro _ _ ⟨rfl, rfl⟩
      refine GO_q rfl rfl (ev_assign rfl) ?_
      refine GO_nil ?_
      (repeat first | refine G_seq ?_ | refine G_skip ?_ | refine G_endblk ?_ | refine G_block ?_ | refine G_exit rfl ?_)
      refine G_region ?_
      refine GO_q rfl rfl (ev_move rfl) ?_
      refine GO_q rfl rfl (ev_geq rfl rfl) ?_
      refine GO_nil ?_
      (repeat first | refine G_seq ?_ | refine G_skip ?_ | refine G_endblk ?_ | refine G_block ?_ | refine G_exit rfl ?_)
      refine G_cond_t rfl rfl ?_
      (repeat first | refine G_seq ?_ | refine G_skip ?_ | refine G_endblk ?_ | refine G_block ?_ | refine G_exit rfl ?_)
      refine G_drawE 5 (.q 0 (.q 1 (.q 2 (.q 3 (.q 4 (.q 5 (.q 6 (.q 7 (.q 8 (.q 10 (.q 11 (.e 9 (.q 12 (.e 13 .nil)))))))))))))) (by kernel_rfl) (by kernel_rfl) ?_
      refine RS_m retB_noPanic rfl rfl rfl rfl (ev_move rfl) ?_
      refine RS_m retB_noPanic rfl rfl rfl rfl (ev_move rfl) ?_
      refine RS_m retB_noPanic rfl rfl rfl rfl (ev_move rfl) ?_
      refine RS_m retB_noPanic rfl rfl rfl rfl (ev_move rfl) ?_
      (first | refine RS_m retB_noPanic rfl rfl rfl rfl (ev_nilCheck rfl) ?_ | refine RS_m retB_noPanic rfl rfl rfl rfl (ev_nilCheckF (by simp) rfl) ?_)
      refine RS_m retB_noPanic rfl rfl rfl rfl (ev_fieldAddr rfl) ?_
      refine RS_m retB_noPanic rfl rfl rfl rfl (ev_indexAddrA rfl rfl (by first | omega | (simp; done) | (simp; omega)) (by first | omega | (simp; done) | (simp; omega))) ?_
      refine RS_q retB_noPanic rfl rfl rfl rfl (ev_load rfl (by repeat' first | exact Ld.blk rfl | assumption | apply Ld.skip | apply Ld.app)) ?_
      refine RS_q retB_noPanic rfl rfl rfl rfl (ev_loadN rfl (by repeat' first | exact LdN.blk rfl | assumption | apply LdN.skip | apply LdN.app)) ?_
      (first | refine RS_m retB_noPanic rfl rfl rfl rfl (ev_nilCheck rfl) ?_ | refine RS_m retB_noPanic rfl rfl rfl rfl (ev_nilCheckF (by simp) rfl) ?_)
      refine RS_m retB_noPanic rfl rfl rfl rfl (ev_fieldAddr rfl) ?_
      refine RS_e (RE_cmp (by kernel_rfl) rfl rfl rfl (eff_call rfl (Ctr.pick (by repeat' first | exact Pick.here | apply Pick.skip | apply Pick.app) (ih1 _ o1 hm.2.1 (by omega)))) ?_); rintro _ _ ⟨T, ⟨t1, t2, t3⟩, rfl, rfl⟩
      refine RS_m retB_noPanic rfl rfl rfl rfl (ev_indexAddrA rfl rfl (by first | omega | (simp; done) | (simp; omega)) (by first | omega | (simp; done) | (simp; omega))) ?_
      refine RS_e (RE_last (by kernel_rfl) rfl rfl rfl (eff_store rfl rfl rfl (by repeat' first | exact Upd.here rfl | apply Upd.skip | apply Upd.app)) ?_); rintro _ _ ⟨rfl, rfl⟩
      have g1 := t3.length_eq
      simp only [List.length_cons] at g1
      have hkT : IT.kok mid p q T.spans hi.spans := ⟨a1, a2, a3, fun t ht => (List.mem_cons.1 (t3.subset ht)).elim (fun h => h ▸ c1) (a4 t), a5⟩
      (repeat first | refine G_seq ?_ | refine G_skip ?_ | refine G_endblk ?_ | refine G_block ?_ | refine G_exit rfl ?_)
      refine G_region ?_
      refine GO_q rfl rfl (ev_move rfl) ?_
      refine GO_eff rfl rfl (eff_call rfl (Ctr.pre (M := itM b mid A c p C d q m T hi (F :: L)) (by unfold itM; exact (by (repeat first | exact en_refl | (apply en_blk; focus ((repeat' first | exact Pick.here | apply Pick.skip | apply Pick.app); done); focus rfl) | (apply en_own; focus ((repeat' first | exact Pick.here | apply Pick.skip | apply Pick.app); done); focus rfl) | (apply en_pick; focus ((repeat' first | exact Pick.here | apply Pick.skip | apply Pick.app); done)) | apply en_drop | apply en_app) <;> fail)) (even_ctr ⟨hft'.p, hft'.q, t2, hft'.hi⟩ b mid m _ hkT t1 o2 (by omega) (s :: (p ++ (lo.spans ++ hi.spans))) (((t3.append_right _).append_left p).trans List.perm_middle)))) ?_; rintro _ _ ⟨T9, ⟨v1, v2, v3⟩, rfl, rfl⟩
      refine GO_q rfl rfl (ev_assign rfl) ?_
      refine GO_nil ?_
      (repeat first | refine G_seq ?_ | refine G_skip ?_ | refine G_endblk ?_ | refine G_block ?_ | refine G_exit rfl ?_)
      exact G_ret (L' := itH T9 :: L) rfl (.tmp rfl .nil) (fun h s => s.swap) ⟨T9, ⟨v1, v2, v3⟩, rfl, rfl⟩
    · by_cases c2 : mid < s.x
      · have e : sideI mid s = 1 := by unfold sideI; rw [if_neg c1, if_pos c2]
        rw [e] at hsd
        refine Ctr_of (fn := Tryz.f48) (n := 57) Tryz.func48 rfl rfl rfl ?_
        intro g F
        (repeat first | refine G_seq ?_ | refine G_skip ?_ | refine G_endblk ?_ | refine G_block ?_ | refine G_exit rfl ?_)
        refine G_region ?_
        refine GO_eff rfl rfl (eff_box rfl) ?_; rintro _ _ ⟨b3, rfl, rfl⟩
        refine GO_q rfl rfl (ev_assign rfl) ?_
        refine GO_nil ?_
        (repeat first | refine G_seq ?_ | refine G_skip ?_ | refine G_endblk ?_ | refine G_block ?_ | refine G_exit rfl ?_)
        refine G_region ?_
        refine GO_q rfl rfl (ev_move rfl) ?_
        (first | refine GO_q rfl rfl (ev_eqlNil rfl rfl) ?_ | refine GO_q rfl rfl (ev_eqlPtr rfl rfl) ?_)
        refine GO_nil ?_
        (repeat first | refine G_seq ?_ | refine G_skip ?_ | refine G_endblk ?_ | refine G_block ?_ | refine G_exit rfl ?_)
        refine G_cond_f rfl rfl ?_
        (repeat first | refine G_seq ?_ | refine G_skip ?_ | refine G_endblk ?_ | refine G_block ?_ | refine G_exit rfl ?_)
        refine G_region ?_
        refine GO_q rfl rfl (ev_move rfl) ?_
        refine GO_q rfl rfl (ev_loadN rfl (by repeat' first | exact LdN.blk rfl | assumption | apply LdN.skip | apply LdN.app)) ?_
        refine GO_eff rfl rfl (eff_call rfl (hsd _ (by repeat' first | exact Ld.blk rfl | assumption | apply Ld.skip | apply Ld.app))) ?_; rintro _ _ ⟨rfl, rfl⟩
        refine GO_q rfl rfl (ev_assign rfl) ?_
        refine GO_nil ?_
        (repeat first | refine G_seq ?_ | refine G_skip ?_ | refine G_endblk ?_ | refine G_block ?_ | refine G_exit rfl ?_)
        refine G_region ?_
        refine GO_q rfl rfl (ev_move rfl) ?_
        refine GO_q rfl rfl (ev_geq rfl rfl) ?_
        refine GO_nil ?_
        (repeat first | refine G_seq ?_ | refine G_skip ?_ | refine G_endblk ?_ | refine G_block ?_ | refine G_exit rfl ?_)
        refine G_cond_t rfl rfl ?_
        (repeat first | refine G_seq ?_ | refine G_skip ?_ | refine G_endblk ?_ | refine G_block ?_ | refine G_exit rfl ?_)
        refine G_drawE 6 (.q 0 (.q 1 (.q 2 (.q 3 (.q 4 (.q 5 (.q 6 (.q 7 (.q 8 (.q 10 (.q 11 (.e 9 (.q 12 (.e 13 .nil)))))))))))))) (by kernel_rfl) (by kernel_rfl) ?_
        refine RS_m retB_noPanic rfl rfl rfl rfl (ev_move rfl) ?_
        refine RS_m retB_noPanic rfl rfl rfl rfl (ev_move rfl) ?_
        refine RS_m retB_noPanic rfl rfl rfl rfl (ev_move rfl) ?_
        refine RS_m retB_noPanic rfl rfl rfl rfl (ev_move rfl) ?_
        (first | refine RS_m retB_noPanic rfl rfl rfl rfl (ev_nilCheck rfl) ?_ | refine RS_m retB_noPanic rfl rfl rfl rfl (ev_nilCheckF (by simp) rfl) ?_)
        refine RS_m retB_noPanic rfl rfl rfl rfl (ev_fieldAddr rfl) ?_
        refine RS_m retB_noPanic rfl rfl rfl rfl (ev_indexAddrA rfl rfl (by first | omega | (simp; done) | (simp; omega)) (by first | omega | (simp; done) | (simp; omega))) ?_
        refine RS_q retB_noPanic rfl rfl rfl rfl (ev_load rfl (by repeat' first | exact Ld.blk rfl | assumption | apply Ld.skip | apply Ld.app)) ?_
        refine RS_q retB_noPanic rfl rfl rfl rfl (ev_loadN rfl (by repeat' first | exact LdN.blk rfl | assumption | apply LdN.skip | apply LdN.app)) ?_
        (first | refine RS_m retB_noPanic rfl rfl rfl rfl (ev_nilCheck rfl) ?_ | refine RS_m retB_noPanic rfl rfl rfl rfl (ev_nilCheckF (by simp) rfl) ?_)
        refine RS_m retB_noPanic rfl rfl rfl rfl (ev_fieldAddr rfl) ?_
        refine RS_e (RE_cmp (by kernel_rfl) rfl rfl rfl (eff_call rfl (Ctr.pick (by repeat' first | exact Pick.here | apply Pick.skip | apply Pick.app) (ih2 _ o2 hm.2.2 (by omega)))) ?_); rintro _ _ ⟨T, ⟨t1, t2, t3⟩, rfl, rfl⟩
        refine RS_m retB_noPanic rfl rfl rfl rfl (ev_indexAddrA rfl rfl (by first | omega | (simp; done) | (simp; omega)) (by first | omega | (simp; done) | (simp; omega))) ?_
        refine RS_e (RE_last (by kernel_rfl) rfl rfl rfl (eff_store rfl rfl rfl (by repeat' first | exact Upd.here rfl | apply Upd.skip | apply Upd.app)) ?_); rintro _ _ ⟨rfl, rfl⟩
        have g1 := t3.length_eq
        simp only [List.length_cons] at g1
        have hkT : IT.kok mid p q lo.spans T.spans := ⟨a1, a2, a3, a4, fun t ht => (List.mem_cons.1 (t3.subset ht)).elim (fun h => h ▸ c2) (a5 t)⟩
        (repeat first | refine G_seq ?_ | refine G_skip ?_ | refine G_endblk ?_ | refine G_block ?_ | refine G_exit rfl ?_)
        refine G_region ?_
        refine GO_q rfl rfl (ev_move rfl) ?_
        refine GO_eff rfl rfl (eff_call rfl (Ctr.pre (M := itM b mid A c p C d q m lo T (F :: L)) (by unfold itM; exact (by (repeat first | exact en_refl | (apply en_blk; focus ((repeat' first | exact Pick.here | apply Pick.skip | apply Pick.app); done); focus rfl) | (apply en_own; focus ((repeat' first | exact Pick.here | apply Pick.skip | apply Pick.app); done); focus rfl) | (apply en_pick; focus ((repeat' first | exact Pick.here | apply Pick.skip | apply Pick.app); done)) | apply en_drop | apply en_app) <;> fail)) (even_ctr ⟨hft'.p, hft'.q, hft'.lo, t2⟩ b mid m _ hkT o1 t1 (by omega) (s :: (p ++ (lo.spans ++ hi.spans))) ((((t3.append_left _).trans List.perm_middle).append_left p).trans List.perm_middle)))) ?_; rintro _ _ ⟨T9, ⟨v1, v2, v3⟩, rfl, rfl⟩
        refine GO_q rfl rfl (ev_assign rfl) ?_
        refine GO_nil ?_
        (repeat first | refine G_seq ?_ | refine G_skip ?_ | refine G_endblk ?_ | refine G_block ?_ | refine G_exit rfl ?_)
        exact G_ret (L' := itH T9 :: L) rfl (.tmp rfl .nil) (fun h s => s.swap) ⟨T9, ⟨v1, v2, v3⟩, rfl, rfl⟩
      · have e : sideI mid s = -1 := by unfold sideI; rw [if_neg c1, if_neg c2]
        rw [e] at hsd
        have hkT := kok_put hk hm.1 (by omega)
        have rp : ∀ M, Rd (own 24 3 A p.length c (flat p) :: M) A p.length p := fun M => Rc.own (flat_length _) hft'.p.a
        have rq : ∀ M, Rd (own 24 3 C q.length d (flat q) :: M) C q.length q := fun M => Rc.own (flat_length _) hft'.q.a
        have w1 := fun M h => (PutO_ctr less_ls sto_less A p.length c p s M h (by omega) a1).made
        have w2 := fun M h => (PutO_ctr ends_ls sto_ends C q.length d q s M h (by omega) hasq).made
        have w3 : (putO Pt.less s p).length = p.length + 1 := putO_length s p
        have w4 := putO_perm (ls := Pt.less) s p
        generalize putO Pt.less s p = p' at *
        generalize putO Pt.ends s q = q' at *
        refine Ctr_of (fn := Tryz.f48) (n := 57) Tryz.func48 rfl rfl rfl ?_
        intro g F
        (repeat first | refine G_seq ?_ | refine G_skip ?_ | refine G_endblk ?_ | refine G_block ?_ | refine G_exit rfl ?_)
        refine G_region ?_
        refine GO_eff rfl rfl (eff_box rfl) ?_; rintro _ _ ⟨b3, rfl, rfl⟩
        refine GO_q rfl rfl (ev_assign rfl) ?_
        refine GO_nil ?_
        (repeat first | refine G_seq ?_ | refine G_skip ?_ | refine G_endblk ?_ | refine G_block ?_ | refine G_exit rfl ?_)
        refine G_region ?_
        refine GO_q rfl rfl (ev_move rfl) ?_
        (first | refine GO_q rfl rfl (ev_eqlNil rfl rfl) ?_ | refine GO_q rfl rfl (ev_eqlPtr rfl rfl) ?_)
        refine GO_nil ?_
        (repeat first | refine G_seq ?_ | refine G_skip ?_ | refine G_endblk ?_ | refine G_block ?_ | refine G_exit rfl ?_)
        refine G_cond_f rfl rfl ?_
        (repeat first | refine G_seq ?_ | refine G_skip ?_ | refine G_endblk ?_ | refine G_block ?_ | refine G_exit rfl ?_)
        refine G_region ?_
        refine GO_q rfl rfl (ev_move rfl) ?_
        refine GO_q rfl rfl (ev_loadN rfl (by repeat' first | exact LdN.blk rfl | assumption | apply LdN.skip | apply LdN.app)) ?_
        refine GO_eff rfl rfl (eff_call rfl (hsd _ (by repeat' first | exact Ld.blk rfl | assumption | apply Ld.skip | apply Ld.app))) ?_; rintro _ _ ⟨rfl, rfl⟩
        refine GO_q rfl rfl (ev_assign rfl) ?_
        refine GO_nil ?_
        (repeat first | refine G_seq ?_ | refine G_skip ?_ | refine G_endblk ?_ | refine G_block ?_ | refine G_exit rfl ?_)
        refine G_region ?_
        refine GO_q rfl rfl (ev_move rfl) ?_
        refine GO_q rfl rfl (ev_geq rfl rfl) ?_
        refine GO_nil ?_
        (repeat first | refine G_seq ?_ | refine G_skip ?_ | refine G_endblk ?_ | refine G_block ?_ | refine G_exit rfl ?_)
        refine G_cond_f rfl rfl ?_
        (repeat first | refine G_seq ?_ | refine G_skip ?_ | refine G_endblk ?_ | refine G_block ?_ | refine G_exit rfl ?_)
        refine G_draw (.q 0 (.q 1 (.q 2 (.q 3 (.q 4 (.q 5 (.q 6 (.q 8 (.q 9 (.q 10 (.q 11 (.q 12 (.e 7 (.e 13 (.q 14 (.q 15 (.e 16 (.q 17 (.q 18 (.e 19 .nil)))))))))))))))))))) (by kernel_rfl) (by kernel_rfl) ?_
        refine RS_m retB_noPanic rfl rfl rfl rfl (ev_move rfl) ?_
        refine RS_m retB_noPanic rfl rfl rfl rfl (ev_move rfl) ?_
        refine RS_m retB_noPanic rfl rfl rfl rfl (ev_move rfl) ?_
        (first | refine RS_m retB_noPanic rfl rfl rfl rfl (ev_nilCheck rfl) ?_ | refine RS_m retB_noPanic rfl rfl rfl rfl (ev_nilCheckF (by simp) rfl) ?_)
        refine RS_m retB_noPanic rfl rfl rfl rfl (ev_fieldAddr rfl) ?_
        refine RS_q retB_noPanic rfl rfl rfl rfl (ev_load rfl (by repeat' first | exact Ld.blk rfl | assumption | apply Ld.skip | apply Ld.app)) ?_
        refine RS_q retB_noPanic rfl rfl rfl rfl (ev_loadN rfl (by repeat' first | exact LdN.blk rfl | assumption | apply LdN.skip | apply LdN.app)) ?_
        refine RS_m retB_noPanic rfl rfl rfl rfl (ev_move rfl) ?_
        (first | refine RS_m retB_noPanic rfl rfl rfl rfl (ev_nilCheck rfl) ?_ | refine RS_m retB_noPanic rfl rfl rfl rfl (ev_nilCheckF (by simp) rfl) ?_)
        refine RS_m retB_noPanic rfl rfl rfl rfl (ev_fieldAddr rfl) ?_
        refine RS_q retB_noPanic rfl rfl rfl rfl (ev_load rfl (by repeat' first | exact Ld.blk rfl | assumption | apply Ld.skip | apply Ld.app)) ?_
        refine RS_q retB_noPanic rfl rfl rfl rfl (ev_loadN rfl (by repeat' first | exact LdN.blk rfl | assumption | apply LdN.skip | apply LdN.app)) ?_
        refine RS_e (RE_eff rfl rfl rfl (eff_call rfl (w1 _ (by repeat' first | exact rp _ | apply Rd.skip))) ?_); rintro _ _ ⟨A1, c1', rfl, x1, x2, x3, rfl⟩; refine ⟨_, fun _ s => s, (by first | ((repeat first | exact fun _ s => s | apply en_keep | apply en_drop | apply en_app) <;> fail) | ((repeat first | exact en_refl | (apply en_blk; focus ((repeat' first | exact Pick.here | apply Pick.skip | apply Pick.app); done); focus rfl) | (apply en_own; focus ((repeat' first | exact Pick.here | apply Pick.skip | apply Pick.app); done); focus rfl) | (apply en_pick; focus ((repeat' first | exact Pick.here | apply Pick.skip | apply Pick.app); done)) | apply en_drop | apply en_app) <;> fail)), ?_⟩
        refine RS_e (RE_eff rfl rfl rfl (eff_call rfl (w2 _ (by repeat' first | exact rq _ | apply Rd.skip))) ?_); rintro _ _ ⟨A2, c2', rfl, y1, y2, y3, rfl⟩; refine ⟨_, fun _ s => s, (by first | ((repeat first | exact fun _ s => s | apply en_keep | apply en_drop | apply en_app) <;> fail) | ((repeat first | exact en_refl | (apply en_blk; focus ((repeat' first | exact Pick.here | apply Pick.skip | apply Pick.app); done); focus rfl) | (apply en_own; focus ((repeat' first | exact Pick.here | apply Pick.skip | apply Pick.app); done); focus rfl) | (apply en_pick; focus ((repeat' first | exact Pick.here | apply Pick.skip | apply Pick.app); done)) | apply en_drop | apply en_app) <;> fail)), ?_⟩
        (first | refine RS_m retB_noPanic rfl rfl rfl rfl (ev_nilCheck rfl) ?_ | refine RS_m retB_noPanic rfl rfl rfl rfl (ev_nilCheckF (by simp) rfl) ?_)
        refine RS_m retB_noPanic rfl rfl rfl rfl (ev_fieldAddr rfl) ?_
        refine RS_e (RE_cmp (by kernel_rfl) rfl rfl rfl (eff_store rfl rfl rfl (by repeat' first | exact Upd.here rfl | apply Upd.skip | apply Upd.app)) ?_); rintro _ _ ⟨rfl, rfl⟩
        (first | refine RS_m retB_noPanic rfl rfl rfl rfl (ev_nilCheck rfl) ?_ | refine RS_m retB_noPanic rfl rfl rfl rfl (ev_nilCheckF (by simp) rfl) ?_)
        refine RS_m retB_noPanic rfl rfl rfl rfl (ev_fieldAddr rfl) ?_
        refine RS_e (RE_last (by kernel_rfl) rfl rfl rfl (eff_store rfl rfl rfl (by repeat' first | exact Upd.here rfl | apply Upd.skip | apply Upd.app)) ?_); rintro _ _ ⟨rfl, rfl⟩
        all_goals
          (repeat first | refine G_seq ?_ | refine G_skip ?_ | refine G_endblk ?_ | refine G_block ?_ | refine G_exit rfl ?_)
          refine G_region ?_
          refine GO_q rfl rfl (ev_move rfl) ?_
          refine GO_eff rfl rfl (eff_call rfl (Ctr.pre (M := itM b mid A1 c1' p' A2 c2' q' m lo hi (F :: L)) (by unfold itM; exact (by (repeat first | exact en_refl | (apply en_blk; focus ((repeat' first | exact Pick.here | apply Pick.skip | apply Pick.app); done); focus rfl) | (apply en_own; focus ((repeat' first | exact Pick.here | apply Pick.skip | apply Pick.app); done); focus rfl) | (apply en_pick; focus ((repeat' first | exact Pick.here | apply Pick.skip | apply Pick.app); done)) | apply en_drop | apply en_app) <;> fail)) (even_ctr ⟨⟨x1, x2, x3⟩, ⟨y1, y2, y3⟩, hft'.lo, hft'.hi⟩ b mid m _ hkT o1 o2 (by omega) (s :: (p ++ (lo.spans ++ hi.spans))) (w4.append_right _)))) ?_; rintro _ _ ⟨T9, ⟨v1, v2, v3⟩, rfl, rfl⟩
          refine GO_q rfl rfl (ev_assign rfl) ?_
          refine GO_nil ?_
          (repeat first | refine G_seq ?_ | refine G_skip ?_ | refine G_endblk ?_ | refine G_block ?_ | refine G_exit rfl ?_)
          exact G_ret (L' := itH T9 :: L) rfl (.tmp rfl .nil) (fun h s => s.swap) ⟨T9, ⟨v1, v2, v3⟩, rfl, rfl⟩
theorem cut_ctr : ∀ (T : IT) (s : Pt) (L : List HP), T.ok → T.fit → s ∈ T.spans → T.spans.length ≤ 90000 →
    Ctr Tryz.prog 49 #[.pointer T.addr, s.v] (itH T :: L) fun v L' => MadeI (T.spans.erase s) L v L'
  | .nil, s, L, ho, hft, hm, hn => by simp [IT.spans] at hm
  | .node b mid A c p C d q m lo hi, s, L, ho, hft, hm, hn => by
    have hs := ho.fair s hm
    obtain ⟨l1, l2, l3⟩ := ho.low_mem hs hm
    have ih1 := fun M h1 h2 => cut_ctr lo s M h1 hft.2.1 h2
    have ih2 := fun M h1 h2 => cut_ctr hi s M h1 hft.2.2 h2
    have hft' := fit_one hft
    obtain ⟨hk, e1, e2, e3, o1, o2⟩ := ho
    have hk' := hk
    obtain ⟨a1, a2, a3, a4, a5⟩ := hk'
    have hasq := kok_asc hk
    have hqp : q.Perm p := a2 ▸ srtO_perm p
    have hql : q.length = p.length := by rw [a2, srtO_length]
    simp only [IT.spans, List.length_append] at hn
    have ep : (IT.node b mid A c p C d q m lo hi).spans = p ++ (lo.spans ++ hi.spans) := rfl
    rw [ep]
    have iin := fun M => itM_in hft' b mid m M
    have hsd := fun M => side_ctr b mid s M
    refine Ctr.open (ι := Unit) (Fa := fun _ => True) (N := fun _ => itL b mid A c p C d q m lo hi) (fun _ h => ⟨(), trivial, h⟩) fun _ _ => ?_
    show Ctr _ _ _ (blk b 92 (inC mid A p.length c C q.length d lo.addr hi.addr m) :: own 24 3 A p.length c (flat p) :: own 24 3 C q.length d (flat q) :: itH lo :: itH hi :: L) _
    by_cases c1 : s.y < mid
    · have e : sideI mid s = 0 := by unfold sideI; rw [if_pos c1]
      rw [e] at hsd
      have hmem := l1 c1
      have hsp : s ∉ p := fun h => by have := a3 s h; omega
      have ee : (p ++ (lo.spans ++ hi.spans)).erase s = p ++ (lo.spans.erase s ++ hi.spans) := by
        rw [List.erase_append_right _ hsp, List.erase_append_left _ hmem]
      have el := List.length_erase_of_mem hmem
      rw [ee]
      refine Ctr_of (fn := Tryz.f49) (n := 50) Tryz.func49 rfl rfl rfl ?_
      intro g F
      (repeat first | refine G_seq ?_ | refine G_skip ?_ | refine G_endblk ?_ | refine G_block ?_ | refine G_exit rfl ?_)
      refine G_region ?_
      refine GO_eff rfl rfl (eff_box rfl) ?_; rintro _ _ ⟨b3, rfl, rfl⟩
      refine GO_q rfl rfl (ev_assign rfl) ?_
      refine GO_nil ?_
      (repeat first | refine G_seq ?_ | refine G_skip ?_ | refine G_endblk ?_ | refine G_block ?_ | refine G_exit rfl ?_)
      refine G_region ?_
      refine GO_q rfl rfl (ev_move rfl) ?_
      refine GO_q rfl rfl (ev_loadN rfl (by repeat' first | exact LdN.blk rfl | assumption | apply LdN.skip | apply LdN.app)) ?_
      refine GO_eff rfl rfl (eff_call rfl (hsd _ (by repeat' first | exact Ld.blk rfl | assumption | apply Ld.skip | apply Ld.app))) ?_; rintro _ _ ⟨rfl, rfl⟩
      refine GO_q rfl rfl (ev_assign rfl) ?_
      refine GO_nil ?_
      (repeat first | refine G_seq ?_ | refine G_skip ?_ | refine G_endblk ?_ | refine G_block ?_ | refine G_exit rfl ?_)
      refine G_region ?_
      refine GO_q rfl rfl (ev_move rfl) ?_
      refine GO_q rfl rfl (ev_geq rfl rfl) ?_
      refine GO_nil ?_
      (repeat first | refine G_seq ?_ | refine G_skip ?_ | refine G_endblk ?_ | refine G_block ?_ | refine G_exit rfl ?_)
      refine G_cond_t rfl rfl ?_
      (repeat first | refine G_seq ?_ | refine G_skip ?_ | refine G_endblk ?_ | refine G_block ?_ | refine G_exit rfl ?_)
      refine G_drawE 5 (.q 0 (.q 1 (.q 2 (.q 3 (.q 4 (.q 5 (.q 6 (.q 7 (.q 8 (.q 10 (.q 11 (.e 9 (.q 12 (.e 13 .nil)))))))))))))) (by kernel_rfl) (by kernel_rfl) ?_
      refine RS_m retB_noPanic rfl rfl rfl rfl (ev_move rfl) ?_
      refine RS_m retB_noPanic rfl rfl rfl rfl (ev_move rfl) ?_
      refine RS_m retB_noPanic rfl rfl rfl rfl (ev_move rfl) ?_
      refine RS_m retB_noPanic rfl rfl rfl rfl (ev_move rfl) ?_
      (first | refine RS_m retB_noPanic rfl rfl rfl rfl (ev_nilCheck rfl) ?_ | refine RS_m retB_noPanic rfl rfl rfl rfl (ev_nilCheckF (by simp) rfl) ?_)
      refine RS_m retB_noPanic rfl rfl rfl rfl (ev_fieldAddr rfl) ?_
      refine RS_m retB_noPanic rfl rfl rfl rfl (ev_indexAddrA rfl rfl (by first | omega | (simp; done) | (simp; omega)) (by first | omega | (simp; done) | (simp; omega))) ?_
      refine RS_q retB_noPanic rfl rfl rfl rfl (ev_load rfl (by repeat' first | exact Ld.blk rfl | assumption | apply Ld.skip | apply Ld.app)) ?_
      refine RS_q retB_noPanic rfl rfl rfl rfl (ev_loadN rfl (by repeat' first | exact LdN.blk rfl | assumption | apply LdN.skip | apply LdN.app)) ?_
      (first | refine RS_m retB_noPanic rfl rfl rfl rfl (ev_nilCheck rfl) ?_ | refine RS_m retB_noPanic rfl rfl rfl rfl (ev_nilCheckF (by simp) rfl) ?_)
      refine RS_m retB_noPanic rfl rfl rfl rfl (ev_fieldAddr rfl) ?_
      refine RS_e (RE_cmp (by kernel_rfl) rfl rfl rfl (eff_call rfl (Ctr.pick (by repeat' first | exact Pick.here | apply Pick.skip | apply Pick.app) (ih1 _ o1 hmem (by omega)))) ?_); rintro _ _ ⟨T, ⟨t1, t2, t3⟩, rfl, rfl⟩
      refine RS_m retB_noPanic rfl rfl rfl rfl (ev_indexAddrA rfl rfl (by first | omega | (simp; done) | (simp; omega)) (by first | omega | (simp; done) | (simp; omega))) ?_
      refine RS_e (RE_last (by kernel_rfl) rfl rfl rfl (eff_store rfl rfl rfl (by repeat' first | exact Upd.here rfl | apply Upd.skip | apply Upd.app)) ?_); rintro _ _ ⟨rfl, rfl⟩
      have g1 := t3.length_eq
      have hkT : IT.kok mid p q T.spans hi.spans := ⟨a1, a2, a3, fun t ht => a4 t (List.mem_of_mem_erase (t3.subset ht)), a5⟩
      (repeat first | refine G_seq ?_ | refine G_skip ?_ | refine G_endblk ?_ | refine G_block ?_ | refine G_exit rfl ?_)
      refine G_region ?_
      refine GO_q rfl rfl (ev_move rfl) ?_
      refine GO_eff rfl rfl (eff_call rfl (Ctr.pre (M := itM b mid A c p C d q m T hi (F :: L)) (by unfold itM; exact (by (repeat first | exact en_refl | (apply en_blk; focus ((repeat' first | exact Pick.here | apply Pick.skip | apply Pick.app); done); focus rfl) | (apply en_own; focus ((repeat' first | exact Pick.here | apply Pick.skip | apply Pick.app); done); focus rfl) | (apply en_pick; focus ((repeat' first | exact Pick.here | apply Pick.skip | apply Pick.app); done)) | apply en_drop | apply en_app) <;> fail)) (even_ctr ⟨hft'.p, hft'.q, t2, hft'.hi⟩ b mid m _ hkT t1 o2 (by omega) (p ++ (lo.spans.erase s ++ hi.spans)) ((t3.append_right _).append_left p)))) ?_; rintro _ _ ⟨T9, ⟨v1, v2, v3⟩, rfl, rfl⟩
      refine GO_q rfl rfl (ev_assign rfl) ?_
      refine GO_nil ?_
      (repeat first | refine G_seq ?_ | refine G_skip ?_ | refine G_endblk ?_ | refine G_block ?_ | refine G_exit rfl ?_)
      exact G_ret (L' := itH T9 :: L) rfl (.tmp rfl .nil) (fun h s => s.swap) ⟨T9, ⟨v1, v2, v3⟩, rfl, rfl⟩
    · by_cases c2 : mid < s.x
      · have e : sideI mid s = 1 := by unfold sideI; rw [if_neg c1, if_pos c2]
        rw [e] at hsd
        have hmem := l2 c2
        have hsp : s ∉ p := fun h => by have := a3 s h; omega
        have hsl : s ∉ lo.spans := fun h => by have := a4 s h; omega
        have ee : (p ++ (lo.spans ++ hi.spans)).erase s = p ++ (lo.spans ++ hi.spans.erase s) := by
          rw [List.erase_append_right _ hsp, List.erase_append_right _ hsl]
        have el := List.length_erase_of_mem hmem
        rw [ee]
        refine Ctr_of (fn := Tryz.f49) (n := 50) Tryz.func49 rfl rfl rfl ?_
        intro g F
        (repeat first | refine G_seq ?_ | refine G_skip ?_ | refine G_endblk ?_ | refine G_block ?_ | refine G_exit rfl ?_)
        refine G_region ?_
        refine GO_eff rfl rfl (eff_box rfl) ?_; rintro _ _ ⟨b3, rfl, rfl⟩
        refine GO_q rfl rfl (ev_assign rfl) ?_
        refine GO_nil ?_
        (repeat first | refine G_seq ?_ | refine G_skip ?_ | refine G_endblk ?_ | refine G_block ?_ | refine G_exit rfl ?_)
        refine G_region ?_
        refine GO_q rfl rfl (ev_move rfl) ?_
        refine GO_q rfl rfl (ev_loadN rfl (by repeat' first | exact LdN.blk rfl | assumption | apply LdN.skip | apply LdN.app)) ?_
        refine GO_eff rfl rfl (eff_call rfl (hsd _ (by repeat' first | exact Ld.blk rfl | assumption | apply Ld.skip | apply Ld.app))) ?_; rintro _ _ ⟨rfl, rfl⟩
        refine GO_q rfl rfl (ev_assign rfl) ?_
        refine GO_nil ?_
        (repeat first | refine G_seq ?_ | refine G_skip ?_ | refine G_endblk ?_ | refine G_block ?_ | refine G_exit rfl ?_)
        refine G_region ?_
        refine GO_q rfl rfl (ev_move rfl) ?_
        refine GO_q rfl rfl (ev_geq rfl rfl) ?_
        refine GO_nil ?_
        (repeat first | refine G_seq ?_ | refine G_skip ?_ | refine G_endblk ?_ | refine G_block ?_ | refine G_exit rfl ?_)
        refine G_cond_t rfl rfl ?_
        (repeat first | refine G_seq ?_ | refine G_skip ?_ | refine G_endblk ?_ | refine G_block ?_ | refine G_exit rfl ?_)
        refine G_drawE 6 (.q 0 (.q 1 (.q 2 (.q 3 (.q 4 (.q 5 (.q 6 (.q 7 (.q 8 (.q 10 (.q 11 (.e 9 (.q 12 (.e 13 .nil)))))))))))))) (by kernel_rfl) (by kernel_rfl) ?_
        refine RS_m retB_noPanic rfl rfl rfl rfl (ev_move rfl) ?_
        refine RS_m retB_noPanic rfl rfl rfl rfl (ev_move rfl) ?_
        refine RS_m retB_noPanic rfl rfl rfl rfl (ev_move rfl) ?_
        refine RS_m retB_noPanic rfl rfl rfl rfl (ev_move rfl) ?_
        (first | refine RS_m retB_noPanic rfl rfl rfl rfl (ev_nilCheck rfl) ?_ | refine RS_m retB_noPanic rfl rfl rfl rfl (ev_nilCheckF (by simp) rfl) ?_)
        refine RS_m retB_noPanic rfl rfl rfl rfl (ev_fieldAddr rfl) ?_
        refine RS_m retB_noPanic rfl rfl rfl rfl (ev_indexAddrA rfl rfl (by first | omega | (simp; done) | (simp; omega)) (by first | omega | (simp; done) | (simp; omega))) ?_
        refine RS_q retB_noPanic rfl rfl rfl rfl (ev_load rfl (by repeat' first | exact Ld.blk rfl | assumption | apply Ld.skip | apply Ld.app)) ?_
        refine RS_q retB_noPanic rfl rfl rfl rfl (ev_loadN rfl (by repeat' first | exact LdN.blk rfl | assumption | apply LdN.skip | apply LdN.app)) ?_
        (first | refine RS_m retB_noPanic rfl rfl rfl rfl (ev_nilCheck rfl) ?_ | refine RS_m retB_noPanic rfl rfl rfl rfl (ev_nilCheckF (by simp) rfl) ?_)
        refine RS_m retB_noPanic rfl rfl rfl rfl (ev_fieldAddr rfl) ?_
        refine RS_e (RE_cmp (by kernel_rfl) rfl rfl rfl (eff_call rfl (Ctr.pick (by repeat' first | exact Pick.here | apply Pick.skip | apply Pick.app) (ih2 _ o2 hmem (by omega)))) ?_); rintro _ _ ⟨T, ⟨t1, t2, t3⟩, rfl, rfl⟩
        refine RS_m retB_noPanic rfl rfl rfl rfl (ev_indexAddrA rfl rfl (by first | omega | (simp; done) | (simp; omega)) (by first | omega | (simp; done) | (simp; omega))) ?_
        refine RS_e (RE_last (by kernel_rfl) rfl rfl rfl (eff_store rfl rfl rfl (by repeat' first | exact Upd.here rfl | apply Upd.skip | apply Upd.app)) ?_); rintro _ _ ⟨rfl, rfl⟩
        have g1 := t3.length_eq
        have hkT : IT.kok mid p q lo.spans T.spans := ⟨a1, a2, a3, a4, fun t ht => a5 t (List.mem_of_mem_erase (t3.subset ht))⟩
        (repeat first | refine G_seq ?_ | refine G_skip ?_ | refine G_endblk ?_ | refine G_block ?_ | refine G_exit rfl ?_)
        refine G_region ?_
        refine GO_q rfl rfl (ev_move rfl) ?_
        refine GO_eff rfl rfl (eff_call rfl (Ctr.pre (M := itM b mid A c p C d q m lo T (F :: L)) (by unfold itM; exact (by (repeat first | exact en_refl | (apply en_blk; focus ((repeat' first | exact Pick.here | apply Pick.skip | apply Pick.app); done); focus rfl) | (apply en_own; focus ((repeat' first | exact Pick.here | apply Pick.skip | apply Pick.app); done); focus rfl) | (apply en_pick; focus ((repeat' first | exact Pick.here | apply Pick.skip | apply Pick.app); done)) | apply en_drop | apply en_app) <;> fail)) (even_ctr ⟨hft'.p, hft'.q, hft'.lo, t2⟩ b mid m _ hkT o1 t1 (by omega) (p ++ (lo.spans ++ hi.spans.erase s)) ((t3.append_left _).append_left p)))) ?_; rintro _ _ ⟨T9, ⟨v1, v2, v3⟩, rfl, rfl⟩
        refine GO_q rfl rfl (ev_assign rfl) ?_
        refine GO_nil ?_
        (repeat first | refine G_seq ?_ | refine G_skip ?_ | refine G_endblk ?_ | refine G_block ?_ | refine G_exit rfl ?_)
        exact G_ret (L' := itH T9 :: L) rfl (.tmp rfl .nil) (fun h s => s.swap) ⟨T9, ⟨v1, v2, v3⟩, rfl, rfl⟩
      · have e : sideI mid s = -1 := by unfold sideI; rw [if_neg c1, if_neg c2]
        rw [e] at hsd
        have hmem := l3 c1 c2
        have hmq : s ∈ q := hqp.symm.subset hmem
        have ee : (p ++ (lo.spans ++ hi.spans)).erase s = p.erase s ++ (lo.spans ++ hi.spans) := List.erase_append_left _ hmem
        have el := List.length_erase_of_mem hmem
        rw [ee]
        have hkT := kok_cut (s := s) hk
        have rp : ∀ M, Rd (own 24 3 A p.length c (flat p) :: M) A p.length p := fun M => Rc.own (flat_length _) hft'.p.a
        have rq : ∀ M, Rd (own 24 3 C q.length d (flat q) :: M) C q.length q := fun M => Rc.own (flat_length _) hft'.q.a
        have w1 := fun M h => cutOF (CutO_ctr less_ls sto_less A p.length c p s M h (by omega) a1 hmem)
        have w2 := fun M h => cutOF (CutO_ctr ends_ls sto_ends C q.length d q s M h (by omega) hasq hmq)
        generalize p.erase s = p' at *
        generalize q.erase s = q' at *
        refine Ctr_of (fn := Tryz.f49) (n := 50) Tryz.func49 rfl rfl rfl ?_
        intro g F
        (repeat first | refine G_seq ?_ | refine G_skip ?_ | refine G_endblk ?_ | refine G_block ?_ | refine G_exit rfl ?_)
        refine G_region ?_
        refine GO_eff rfl rfl (eff_box rfl) ?_; rintro _ _ ⟨b3, rfl, rfl⟩
        refine GO_q rfl rfl (ev_assign rfl) ?_
        refine GO_nil ?_
        (repeat first | refine G_seq ?_ | refine G_skip ?_ | refine G_endblk ?_ | refine G_block ?_ | refine G_exit rfl ?_)
        refine G_region ?_
        refine GO_q rfl rfl (ev_move rfl) ?_
        refine GO_q rfl rfl (ev_loadN rfl (by repeat' first | exact LdN.blk rfl | assumption | apply LdN.skip | apply LdN.app)) ?_
        refine GO_eff rfl rfl (eff_call rfl (hsd _ (by repeat' first | exact Ld.blk rfl | assumption | apply Ld.skip | apply Ld.app))) ?_; rintro _ _ ⟨rfl, rfl⟩
        refine GO_q rfl rfl (ev_assign rfl) ?_
        refine GO_nil ?_
        (repeat first | refine G_seq ?_ | refine G_skip ?_ | refine G_endblk ?_ | refine G_block ?_ | refine G_exit rfl ?_)
        refine G_region ?_
        refine GO_q rfl rfl (ev_move rfl) ?_
        refine GO_q rfl rfl (ev_geq rfl rfl) ?_
        refine GO_nil ?_
        (repeat first | refine G_seq ?_ | refine G_skip ?_ | refine G_endblk ?_ | refine G_block ?_ | refine G_exit rfl ?_)
        refine G_cond_f rfl rfl ?_
        (repeat first | refine G_seq ?_ | refine G_skip ?_ | refine G_endblk ?_ | refine G_block ?_ | refine G_exit rfl ?_)
        refine G_draw (.q 0 (.q 1 (.q 2 (.q 3 (.q 4 (.q 5 (.e 6 (.q 7 (.q 8 (.q 9 (.q 10 (.q 11 (.e 12 .nil))))))))))))) (by kernel_rfl) (by kernel_rfl) ?_
        refine RS_m retB_noPanic rfl rfl rfl rfl (ev_move rfl) ?_
        refine RS_m retB_noPanic rfl rfl rfl rfl (ev_move rfl) ?_
        (first | refine RS_m retB_noPanic rfl rfl rfl rfl (ev_nilCheck rfl) ?_ | refine RS_m retB_noPanic rfl rfl rfl rfl (ev_nilCheckF (by simp) rfl) ?_)
        refine RS_m retB_noPanic rfl rfl rfl rfl (ev_fieldAddr rfl) ?_
        refine RS_q retB_noPanic rfl rfl rfl rfl (ev_load rfl (by repeat' first | exact Ld.blk rfl | assumption | apply Ld.skip | apply Ld.app)) ?_
        refine RS_q retB_noPanic rfl rfl rfl rfl (ev_loadN rfl (by repeat' first | exact LdN.blk rfl | assumption | apply LdN.skip | apply LdN.app)) ?_
        refine RS_e (RE_eff rfl rfl rfl (eff_call rfl (w1 _ (by repeat' first | exact rp _ | apply Rd.skip))) ?_); rintro _ _ ⟨A1, c1', rfl, x1, rfl⟩; refine ⟨_, fun _ s => s, (by first | ((repeat first | exact fun _ s => s | apply en_keep | apply en_drop | apply en_app) <;> fail) | ((repeat first | exact en_refl | (apply en_blk; focus ((repeat' first | exact Pick.here | apply Pick.skip | apply Pick.app); done); focus rfl) | (apply en_own; focus ((repeat' first | exact Pick.here | apply Pick.skip | apply Pick.app); done); focus rfl) | (apply en_pick; focus ((repeat' first | exact Pick.here | apply Pick.skip | apply Pick.app); done)) | apply en_drop | apply en_app) <;> fail)), ?_⟩
        refine RS_m retB_noPanic rfl rfl rfl rfl (ev_move rfl) ?_
        refine RS_m retB_noPanic rfl rfl rfl rfl (ev_extract rfl rfl) ?_
        refine RS_m retB_noPanic rfl rfl rfl rfl (ev_extract rfl rfl) ?_
        (first | refine RS_m retB_noPanic rfl rfl rfl rfl (ev_nilCheck rfl) ?_ | refine RS_m retB_noPanic rfl rfl rfl rfl (ev_nilCheckF (by simp) rfl) ?_)
        refine RS_m retB_noPanic rfl rfl rfl rfl (ev_fieldAddr rfl) ?_
        refine RS_e (RE_last (by kernel_rfl) rfl rfl rfl (eff_store rfl rfl rfl (by repeat' first | exact Upd.here rfl | apply Upd.skip | apply Upd.app)) ?_); rintro _ _ ⟨rfl, rfl⟩
        all_goals
          (repeat first | refine G_seq ?_ | refine G_skip ?_ | refine G_endblk ?_ | refine G_block ?_ | refine G_exit rfl ?_)
          refine G_draw (.q 0 (.q 1 (.q 2 (.q 3 (.q 4 (.q 5 (.e 6 (.q 7 (.q 8 (.q 9 (.q 10 (.q 11 (.e 12 .nil))))))))))))) (by kernel_rfl) (by kernel_rfl) ?_
          refine RS_m retB_noPanic rfl rfl rfl rfl (ev_move rfl) ?_
          refine RS_m retB_noPanic rfl rfl rfl rfl (ev_move rfl) ?_
          (first | refine RS_m retB_noPanic rfl rfl rfl rfl (ev_nilCheck rfl) ?_ | refine RS_m retB_noPanic rfl rfl rfl rfl (ev_nilCheckF (by simp) rfl) ?_)
          refine RS_m retB_noPanic rfl rfl rfl rfl (ev_fieldAddr rfl) ?_
          refine RS_q retB_noPanic rfl rfl rfl rfl (ev_load rfl (by repeat' first | exact Ld.blk rfl | assumption | apply Ld.skip | apply Ld.app)) ?_
          refine RS_q retB_noPanic rfl rfl rfl rfl (ev_loadN rfl (by repeat' first | exact LdN.blk rfl | assumption | apply LdN.skip | apply LdN.app)) ?_
          refine RS_e (RE_eff rfl rfl rfl (eff_call rfl (w2 _ (by repeat' first | exact rq _ | apply Rd.skip))) ?_); rintro _ _ ⟨A2, c2', rfl, y1, rfl⟩; refine ⟨_, fun _ s => s, (by first | ((repeat first | exact fun _ s => s | apply en_keep | apply en_drop | apply en_app) <;> fail) | ((repeat first | exact en_refl | (apply en_blk; focus ((repeat' first | exact Pick.here | apply Pick.skip | apply Pick.app); done); focus rfl) | (apply en_own; focus ((repeat' first | exact Pick.here | apply Pick.skip | apply Pick.app); done); focus rfl) | (apply en_pick; focus ((repeat' first | exact Pick.here | apply Pick.skip | apply Pick.app); done)) | apply en_drop | apply en_app) <;> fail)), ?_⟩
          refine RS_m retB_noPanic rfl rfl rfl rfl (ev_move rfl) ?_
          refine RS_m retB_noPanic rfl rfl rfl rfl (ev_extract rfl rfl) ?_
          refine RS_m retB_noPanic rfl rfl rfl rfl (ev_extract rfl rfl) ?_
          (first | refine RS_m retB_noPanic rfl rfl rfl rfl (ev_nilCheck rfl) ?_ | refine RS_m retB_noPanic rfl rfl rfl rfl (ev_nilCheckF (by simp) rfl) ?_)
          refine RS_m retB_noPanic rfl rfl rfl rfl (ev_fieldAddr rfl) ?_
          refine RS_e (RE_last (by kernel_rfl) rfl rfl rfl (eff_store rfl rfl rfl (by repeat' first | exact Upd.here rfl | apply Upd.skip | apply Upd.app)) ?_); rintro _ _ ⟨rfl, rfl⟩
          all_goals
            (repeat first | refine G_seq ?_ | refine G_skip ?_ | refine G_endblk ?_ | refine G_block ?_ | refine G_exit rfl ?_)
            refine G_region ?_
            refine GO_q rfl rfl (ev_move rfl) ?_
            refine GO_eff rfl rfl (eff_call rfl (Ctr.pre (M := itM b mid A1 c1' p' A2 c2' q' m lo hi (F :: L)) (by unfold itM; exact (by (repeat first | exact en_refl | (apply en_blk; focus ((repeat' first | exact Pick.here | apply Pick.skip | apply Pick.app); done); focus rfl) | (apply en_own; focus ((repeat' first | exact Pick.here | apply Pick.skip | apply Pick.app); done); focus rfl) | (apply en_pick; focus ((repeat' first | exact Pick.here | apply Pick.skip | apply Pick.app); done)) | apply en_drop | apply en_app) <;> fail)) (even_ctr ⟨x1, y1, hft'.lo, hft'.hi⟩ b mid m _ hkT o1 o2 (by omega) (p' ++ (lo.spans ++ hi.spans)) (.refl _)))) ?_; rintro _ _ ⟨T9, ⟨v1, v2, v3⟩, rfl, rfl⟩
            refine GO_q rfl rfl (ev_assign rfl) ?_
            refine GO_nil ?_
            (repeat first | refine G_seq ?_ | refine G_skip ?_ | refine G_endblk ?_ | refine G_block ?_ | refine G_exit rfl ?_)
            exact G_ret (L' := itH T9 :: L) rfl (.tmp rfl .nil) (fun h s => s.swap) ⟨T9, ⟨v1, v2, v3⟩, rfl, rfl⟩
end Go.Proofs.YtjnmpogolknkpaaGreat
/- A tree of middles: New, Insert, Delete. -/
namespace Go.Proofs.YtjnmpogolknkpaaGreat
attribute [local irreducible] sat
set_option linter.unusedVariables false
set_option linter.unusedSimpArgs false
set_option maxRecDepth 100000

theorem iNew_bad (most : Int) (L : List HP) (h : most < 1 ∨ 1048576 < most) : Ctr Tryz.prog 21 #[.int .i64 most] L fun v L' => v = .tuple #[.pointer none, .int .i64 1] ∧ L' = L := by
  by_cases h1 : most < 1
  · skip
    refine Ctr_of (fn := Tryz.f21) (n := 13) Tryz.func21 rfl rfl rfl ?_
    intro g F
    (repeat first | refine G_seq ?_ | refine G_skip ?_ | refine G_endblk ?_ | refine G_block ?_ | refine G_exit rfl ?_)
    refine G_region ?_
    refine GO_q rfl rfl (ev_assign rfl) ?_
    refine GO_q rfl rfl (ev_assign rfl) ?_
    refine GO_nil ?_
    (repeat first | refine G_seq ?_ | refine G_skip ?_ | refine G_endblk ?_ | refine G_block ?_ | refine G_exit rfl ?_)
    refine G_region ?_
    refine GO_q rfl rfl (ev_move rfl) ?_
    (first | refine GO_q rfl rfl (ev_lssN (q := 1) rfl rfl) ?_ | refine GO_q rfl rfl (ev_lss rfl rfl) ?_)
    refine GO_q rfl rfl (ev_move rfl) ?_
    refine GO_no rfl rfl rfl (decide_eq_true h1) ?_
    refine GO_no rfl rfl rfl (decide_eq_true h1) ?_
    refine GO_q rfl rfl (ev_pick_t rfl (decide_eq_true h1) rfl) ?_
    refine GO_nil ?_
    (repeat first | refine G_seq ?_ | refine G_skip ?_ | refine G_endblk ?_ | refine G_block ?_ | refine G_exit rfl ?_)
    refine G_cond_t rfl rfl ?_
    (repeat first | refine G_seq ?_ | refine G_skip ?_ | refine G_endblk ?_ | refine G_block ?_ | refine G_exit rfl ?_)
    refine G_region ?_
    refine GO_q rfl rfl (ev_assign rfl) ?_
    refine GO_q rfl rfl (ev_assign rfl) ?_
    refine GO_nil ?_
    (repeat first | refine G_seq ?_ | refine G_skip ?_ | refine G_endblk ?_ | refine G_block ?_ | refine G_exit rfl ?_)
    refine G_ret rfl (.tmp rfl (.tmp rfl .nil)) (by (repeat first | exact fun _ s => s | apply en_keep | apply en_drop | apply en_app) <;> fail) ⟨rfl, rfl⟩
  · skip
    refine Ctr_of (fn := Tryz.f21) (n := 13) Tryz.func21 rfl rfl rfl ?_
    intro g F
    (repeat first | refine G_seq ?_ | refine G_skip ?_ | refine G_endblk ?_ | refine G_block ?_ | refine G_exit rfl ?_)
    refine G_region ?_
    refine GO_q rfl rfl (ev_assign rfl) ?_
    refine GO_q rfl rfl (ev_assign rfl) ?_
    refine GO_nil ?_
    (repeat first | refine G_seq ?_ | refine G_skip ?_ | refine G_endblk ?_ | refine G_block ?_ | refine G_exit rfl ?_)
    refine G_region ?_
    refine GO_q rfl rfl (ev_move rfl) ?_
    (first | refine GO_q rfl rfl (ev_lssN (q := 1) rfl rfl) ?_ | refine GO_q rfl rfl (ev_lss rfl rfl) ?_)
    refine GO_q rfl rfl (ev_move rfl) ?_
    refine GO_yes rfl rfl rfl (decide_eq_false h1) ?_
    refine GO_q rfl rfl (ev_move rfl) ?_
    refine GO_yes rfl rfl rfl (decide_eq_false h1) ?_
    refine GO_q rfl rfl (ev_gtr rfl rfl) ?_
    refine GO_q rfl rfl (ev_pick_f rfl (decide_eq_false h1) rfl) ?_
    refine GO_nil ?_
    (repeat first | refine G_seq ?_ | refine G_skip ?_ | refine G_endblk ?_ | refine G_block ?_ | refine G_exit rfl ?_)
    refine G_cond_t rfl (decide_eq_true (by omega)) ?_
    (repeat first | refine G_seq ?_ | refine G_skip ?_ | refine G_endblk ?_ | refine G_block ?_ | refine G_exit rfl ?_)
    refine G_region ?_
    refine GO_q rfl rfl (ev_assign rfl) ?_
    refine GO_q rfl rfl (ev_assign rfl) ?_
    refine GO_nil ?_
    (repeat first | refine G_seq ?_ | refine G_skip ?_ | refine G_endblk ?_ | refine G_block ?_ | refine G_exit rfl ?_)
    refine G_ret rfl (.tmp rfl (.tmp rfl .nil)) (by (repeat first | exact fun _ s => s | apply en_keep | apply en_drop | apply en_app) <;> fail) ⟨rfl, rfl⟩
theorem iNew_ctr (most : Int) (L : List HP) (h1 : 1 ≤ most) (h2 : most ≤ 1048576) : Ctr Tryz.prog 21 #[.int .i64 most] L fun v L' => ∃ t, v = .tuple #[.pointer (some ⟨t, 0, none⟩), .int .i64 0] ∧ L' = treeI t most [] :: L := by
  refine Ctr_of (fn := Tryz.f21) (n := 13) Tryz.func21 rfl rfl rfl ?_
  intro g F
  (repeat first | refine G_seq ?_ | refine G_skip ?_ | refine G_endblk ?_ | refine G_block ?_ | refine G_exit rfl ?_)
  refine G_region ?_
  refine GO_q rfl rfl (ev_assign rfl) ?_
  refine GO_q rfl rfl (ev_assign rfl) ?_
  refine GO_nil ?_
  (repeat first | refine G_seq ?_ | refine G_skip ?_ | refine G_endblk ?_ | refine G_block ?_ | refine G_exit rfl ?_)
  refine G_region ?_
  refine GO_q rfl rfl (ev_move rfl) ?_
  (first | refine GO_q rfl rfl (ev_lssN (q := 1) rfl rfl) ?_ | refine GO_q rfl rfl (ev_lss rfl rfl) ?_)
  refine GO_q rfl rfl (ev_move rfl) ?_
  refine GO_yes rfl rfl rfl (decide_eq_false (by omega)) ?_
  refine GO_q rfl rfl (ev_move rfl) ?_
  refine GO_yes rfl rfl rfl (decide_eq_false (by omega)) ?_
  refine GO_q rfl rfl (ev_gtr rfl rfl) ?_
  refine GO_q rfl rfl (ev_pick_f rfl (decide_eq_false (by omega)) rfl) ?_
  refine GO_nil ?_
  (repeat first | refine G_seq ?_ | refine G_skip ?_ | refine G_endblk ?_ | refine G_block ?_ | refine G_exit rfl ?_)
  refine G_cond_f rfl (decide_eq_false (by omega)) ?_
  (repeat first | refine G_seq ?_ | refine G_skip ?_ | refine G_endblk ?_ | refine G_block ?_ | refine G_exit rfl ?_)
  refine G_region ?_
  refine GO_q rfl rfl (ev_move rfl) ?_
  refine GO_q rfl rfl (ev_build rfl rfl) ?_
  refine GO_eff rfl rfl (eff_box rfl) ?_; rintro _ _ ⟨b12, rfl, rfl⟩
  refine GO_q rfl rfl (ev_assign rfl) ?_
  refine GO_q rfl rfl (ev_assign rfl) ?_
  refine GO_nil ?_
  (repeat first | refine G_seq ?_ | refine G_skip ?_ | refine G_endblk ?_ | refine G_block ?_ | refine G_exit rfl ?_)
  exact G_ret (L' := treeI b12 most [] :: L) rfl (.tmp rfl (.tmp rfl .nil)) (fun h s => (en_treeI (T := .nil) (M := F :: L) ⟨trivial, trivial, .refl _⟩ (by (repeat first | exact en_refl | apply en_nil' | (apply en_blk; focus ((repeat' first | exact Pick.here | apply Pick.skip | apply Pick.app); done); focus rfl) | (apply en_own; focus ((repeat' first | exact Pick.here | apply Pick.skip | apply Pick.app); done); focus rfl) | (apply en_pick; focus ((repeat' first | exact Pick.here | apply Pick.skip | apply Pick.app); done)) | apply en_drop | apply en_app) <;> fail) h s).swap) ⟨b12, rfl, rfl⟩
theorem iInsert_ctr (t : Nat) (most : Int) (k : List Pt) (s : Pt) (L : List HP) (T : IT) (o : treeO k T) (hn : k.length ≤ 1000) :
    Ctr Tryz.prog 13 #[.pointer (some ⟨t, 0, none⟩), s.v] (blk t 75 [.pointer T.addr, .int .i64 most] :: itH T :: L) fun v L' => v = .int .i64 (insE most k s) ∧ ∃ T', treeO (insK most k s) T' ∧ L' = blk t 75 [.pointer T'.addr, .int .i64 most] :: itH T' :: L := by
  obtain ⟨o1, o2, o3⟩ := o
  have hl := o3.length_eq
  have hsz := o1.size
  have hT : ∀ M, TI (blk t 75 [.pointer T.addr, .int .i64 most] :: itH T :: M) t T most := fun M => ⟨Ld.blk rfl, Ld.blk rfl, (itH_in T M o2).skip⟩
  have hfr := KFair_ctr s
  have hhas := fun M h => ihas_ctr (t := t) (T := T) (most := most) (L := M) h s o1 (by omega)
  rw [o1.has_dec] at hhas
  have hmem := o3.mem_iff (a := s)
  rw [show decide (s ∈ T.spans) = decide (s ∈ k) from decide_eq_decide.2 hmem] at hhas
  cases hg : fairP s with
  | false =>
    have e1 : insE most k s = 1 := by unfold insE; rw [if_pos hg]
    have e2 : insK most k s = k := if_neg (by rw [e1]; decide)
    rw [e1, e2]
    rw [hg] at hfr
    refine Ctr_of (fn := Tryz.f13) (n := 37) Tryz.func13 rfl rfl rfl ?_
    intro g F
    (repeat first | refine G_seq ?_ | refine G_skip ?_ | refine G_endblk ?_ | refine G_block ?_ | refine G_exit rfl ?_)
    refine G_region ?_
    refine GO_eff rfl rfl (eff_box rfl) ?_; rintro _ _ ⟨b3, rfl, rfl⟩
    refine GO_q rfl rfl (ev_assign rfl) ?_
    refine GO_nil ?_
    (repeat first | refine G_seq ?_ | refine G_skip ?_ | refine G_endblk ?_ | refine G_block ?_ | refine G_exit rfl ?_)
    (repeat first | refine G_seq ?_ | refine G_skip ?_ | refine G_endblk ?_ | refine G_block ?_ | refine G_exit rfl ?_)
    refine G_region ?_
    refine GO_q rfl rfl (ev_move rfl) ?_
    (first | refine GO_q rfl rfl (ev_eqlNil rfl rfl) ?_ | refine GO_q rfl rfl (ev_eqlPtr rfl rfl) ?_)
    refine GO_q rfl rfl (ev_move rfl) ?_
    refine GO_yes rfl rfl rfl rfl ?_
    refine GO_q rfl rfl (ev_loadN rfl (by repeat' first | exact LdN.blk rfl | assumption | apply LdN.skip | apply LdN.app)) ?_
    refine GO_yes rfl rfl rfl rfl ?_
    refine GO_eff rfl rfl (eff_call rfl (hfr _)) ?_; rintro _ _ ⟨rfl, rfl⟩
    refine GO_yes rfl rfl rfl rfl ?_
    refine GO_q rfl rfl (ev_not rfl) ?_
    refine GO_q rfl rfl (ev_pick_f rfl rfl rfl) ?_
    refine GO_q rfl rfl (ev_assign rfl) ?_
    refine GO_nil ?_
    (repeat first | refine G_seq ?_ | refine G_skip ?_ | refine G_endblk ?_ | refine G_block ?_ | refine G_exit rfl ?_)
    refine G_cond_t rfl rfl ?_
    (repeat first | refine G_seq ?_ | refine G_skip ?_ | refine G_endblk ?_ | refine G_block ?_ | refine G_exit rfl ?_)
    refine G_region ?_
    refine GO_q rfl rfl (ev_assign rfl) ?_
    refine GO_nil ?_
    (repeat first | refine G_seq ?_ | refine G_skip ?_ | refine G_endblk ?_ | refine G_block ?_ | refine G_exit rfl ?_)
    exact G_ret (L' := blk t 75 [.pointer T.addr, .int .i64 most] :: itH T :: L) rfl (.tmp rfl .nil) (by (repeat first | exact en_refl | (apply en_blk; focus ((repeat' first | exact Pick.here | apply Pick.skip | apply Pick.app); done); focus rfl) | (apply en_own; focus ((repeat' first | exact Pick.here | apply Pick.skip | apply Pick.app); done); focus rfl) | (apply en_pick; focus ((repeat' first | exact Pick.here | apply Pick.skip | apply Pick.app); done)) | apply en_drop | apply en_app) <;> fail) ⟨rfl, T, ⟨o1, o2, o3⟩, rfl⟩
  | true =>
    rw [hg] at hfr
    by_cases hk : s ∈ k
    · have e1 : insE most k s = 5 := by unfold insE; rw [if_neg (by simp [hg]), if_pos hk]
      have e2 : insK most k s = k := if_neg (by rw [e1]; decide)
      rw [e1, e2]
      rw [decide_eq_true hk] at hhas
      refine Ctr_of (fn := Tryz.f13) (n := 37) Tryz.func13 rfl rfl rfl ?_
      intro g F
      (repeat first | refine G_seq ?_ | refine G_skip ?_ | refine G_endblk ?_ | refine G_block ?_ | refine G_exit rfl ?_)
      refine G_region ?_
      refine GO_eff rfl rfl (eff_box rfl) ?_; rintro _ _ ⟨b3, rfl, rfl⟩
      refine GO_q rfl rfl (ev_assign rfl) ?_
      refine GO_nil ?_
      (repeat first | refine G_seq ?_ | refine G_skip ?_ | refine G_endblk ?_ | refine G_block ?_ | refine G_exit rfl ?_)
      (repeat first | refine G_seq ?_ | refine G_skip ?_ | refine G_endblk ?_ | refine G_block ?_ | refine G_exit rfl ?_)
      refine G_region ?_
      refine GO_q rfl rfl (ev_move rfl) ?_
      (first | refine GO_q rfl rfl (ev_eqlNil rfl rfl) ?_ | refine GO_q rfl rfl (ev_eqlPtr rfl rfl) ?_)
      refine GO_q rfl rfl (ev_move rfl) ?_
      refine GO_yes rfl rfl rfl rfl ?_
      refine GO_q rfl rfl (ev_loadN rfl (by repeat' first | exact LdN.blk rfl | assumption | apply LdN.skip | apply LdN.app)) ?_
      refine GO_yes rfl rfl rfl rfl ?_
      refine GO_eff rfl rfl (eff_call rfl (hfr _)) ?_; rintro _ _ ⟨rfl, rfl⟩
      refine GO_yes rfl rfl rfl rfl ?_
      refine GO_q rfl rfl (ev_not rfl) ?_
      refine GO_q rfl rfl (ev_pick_f rfl rfl rfl) ?_
      refine GO_q rfl rfl (ev_assign rfl) ?_
      refine GO_nil ?_
      (repeat first | refine G_seq ?_ | refine G_skip ?_ | refine G_endblk ?_ | refine G_block ?_ | refine G_exit rfl ?_)
      refine G_cond_f rfl rfl ?_
      (repeat first | refine G_seq ?_ | refine G_skip ?_ | refine G_endblk ?_ | refine G_block ?_ | refine G_exit rfl ?_)
      refine G_region ?_
      refine GO_q rfl rfl (ev_move rfl) ?_
      refine GO_q rfl rfl (ev_loadN rfl (by repeat' first | exact LdN.blk rfl | assumption | apply LdN.skip | apply LdN.app)) ?_
      refine GO_eff rfl rfl (eff_call rfl (hhas _ (by repeat' first | exact hT _ | apply TI.skip))) ?_; rintro _ _ ⟨rfl, rfl⟩
      refine GO_q rfl rfl (ev_assign rfl) ?_
      refine GO_nil ?_
      (repeat first | refine G_seq ?_ | refine G_skip ?_ | refine G_endblk ?_ | refine G_block ?_ | refine G_exit rfl ?_)
      refine G_cond_t rfl rfl ?_
      (repeat first | refine G_seq ?_ | refine G_skip ?_ | refine G_endblk ?_ | refine G_block ?_ | refine G_exit rfl ?_)
      refine G_region ?_
      refine GO_q rfl rfl (ev_assign rfl) ?_
      refine GO_nil ?_
      (repeat first | refine G_seq ?_ | refine G_skip ?_ | refine G_endblk ?_ | refine G_block ?_ | refine G_exit rfl ?_)
      exact G_ret (L' := blk t 75 [.pointer T.addr, .int .i64 most] :: itH T :: L) rfl (.tmp rfl .nil) (by (repeat first | exact en_refl | (apply en_blk; focus ((repeat' first | exact Pick.here | apply Pick.skip | apply Pick.app); done); focus rfl) | (apply en_own; focus ((repeat' first | exact Pick.here | apply Pick.skip | apply Pick.app); done); focus rfl) | (apply en_pick; focus ((repeat' first | exact Pick.here | apply Pick.skip | apply Pick.app); done)) | apply en_drop | apply en_app) <;> fail) ⟨rfl, T, ⟨o1, o2, o3⟩, rfl⟩
    · rw [decide_eq_false hk] at hhas
      by_cases hfull : most ≤ k.length
      · have e1 : insE most k s = 4 := by unfold insE; rw [if_neg (by simp [hg]), if_neg hk, if_pos hfull]
        have e2 : insK most k s = k := if_neg (by rw [e1]; decide)
        rw [e1, e2]
        refine Ctr_of (fn := Tryz.f13) (n := 37) Tryz.func13 rfl rfl rfl ?_
        intro g F
        (repeat first | refine G_seq ?_ | refine G_skip ?_ | refine G_endblk ?_ | refine G_block ?_ | refine G_exit rfl ?_)
        refine G_region ?_
        refine GO_eff rfl rfl (eff_box rfl) ?_; rintro _ _ ⟨b3, rfl, rfl⟩
        refine GO_q rfl rfl (ev_assign rfl) ?_
        refine GO_nil ?_
        (repeat first | refine G_seq ?_ | refine G_skip ?_ | refine G_endblk ?_ | refine G_block ?_ | refine G_exit rfl ?_)
        (repeat first | refine G_seq ?_ | refine G_skip ?_ | refine G_endblk ?_ | refine G_block ?_ | refine G_exit rfl ?_)
        refine G_region ?_
        refine GO_q rfl rfl (ev_move rfl) ?_
        (first | refine GO_q rfl rfl (ev_eqlNil rfl rfl) ?_ | refine GO_q rfl rfl (ev_eqlPtr rfl rfl) ?_)
        refine GO_q rfl rfl (ev_move rfl) ?_
        refine GO_yes rfl rfl rfl rfl ?_
        refine GO_q rfl rfl (ev_loadN rfl (by repeat' first | exact LdN.blk rfl | assumption | apply LdN.skip | apply LdN.app)) ?_
        refine GO_yes rfl rfl rfl rfl ?_
        refine GO_eff rfl rfl (eff_call rfl (hfr _)) ?_; rintro _ _ ⟨rfl, rfl⟩
        refine GO_yes rfl rfl rfl rfl ?_
        refine GO_q rfl rfl (ev_not rfl) ?_
        refine GO_q rfl rfl (ev_pick_f rfl rfl rfl) ?_
        refine GO_q rfl rfl (ev_assign rfl) ?_
        refine GO_nil ?_
        (repeat first | refine G_seq ?_ | refine G_skip ?_ | refine G_endblk ?_ | refine G_block ?_ | refine G_exit rfl ?_)
        refine G_cond_f rfl rfl ?_
        (repeat first | refine G_seq ?_ | refine G_skip ?_ | refine G_endblk ?_ | refine G_block ?_ | refine G_exit rfl ?_)
        refine G_region ?_
        refine GO_q rfl rfl (ev_move rfl) ?_
        refine GO_q rfl rfl (ev_loadN rfl (by repeat' first | exact LdN.blk rfl | assumption | apply LdN.skip | apply LdN.app)) ?_
        refine GO_eff rfl rfl (eff_call rfl (hhas _ (by repeat' first | exact hT _ | apply TI.skip))) ?_; rintro _ _ ⟨rfl, rfl⟩
        refine GO_q rfl rfl (ev_assign rfl) ?_
        refine GO_nil ?_
        (repeat first | refine G_seq ?_ | refine G_skip ?_ | refine G_endblk ?_ | refine G_block ?_ | refine G_exit rfl ?_)
        refine G_cond_f rfl rfl ?_
        (repeat first | refine G_seq ?_ | refine G_skip ?_ | refine G_endblk ?_ | refine G_block ?_ | refine G_exit rfl ?_)
        refine G_draw (.q 0 (.q 1 (.q 2 (.q 3 (.q 5 (.q 6 (.q 7 (.q 8 (.e 4 (.q 9 (.q 10 .nil))))))))))) (by kernel_rfl) (by kernel_rfl) ?_
        refine RS_m retB_noPanic rfl rfl rfl rfl (ev_move rfl) ?_
        (first | refine RS_m retB_noPanic rfl rfl rfl rfl (ev_nilCheck rfl) ?_ | refine RS_m retB_noPanic rfl rfl rfl rfl (ev_nilCheckF (by simp) rfl) ?_)
        refine RS_m retB_noPanic rfl rfl rfl rfl (ev_fieldAddr rfl) ?_
        refine RS_q retB_noPanic rfl rfl rfl rfl (ev_load rfl (by repeat' first | exact Ld.blk rfl | assumption | apply Ld.skip | apply Ld.app)) ?_
        refine RS_m retB_noPanic rfl rfl rfl rfl (ev_move rfl) ?_
        (first | refine RS_m retB_noPanic rfl rfl rfl rfl (ev_nilCheck rfl) ?_ | refine RS_m retB_noPanic rfl rfl rfl rfl (ev_nilCheckF (by simp) rfl) ?_)
        refine RS_m retB_noPanic rfl rfl rfl rfl (ev_fieldAddr rfl) ?_
        refine RS_q retB_noPanic rfl rfl rfl rfl (ev_load rfl (by repeat' first | exact Ld.blk rfl | assumption | apply Ld.skip | apply Ld.app)) ?_
        refine RS_e (RE_eff rfl rfl rfl (eff_call rfl (isize_ctr T _ (by repeat' first | exact (hT _).i | apply IIn.skip))) ?_); rintro _ _ ⟨rfl, rfl⟩; refine ⟨_, fun _ s => s, (by first | ((repeat first | exact fun _ s => s | apply en_keep | apply en_drop | apply en_app) <;> fail) | ((repeat first | exact en_refl | (apply en_blk; focus ((repeat' first | exact Pick.here | apply Pick.skip | apply Pick.app); done); focus rfl) | (apply en_own; focus ((repeat' first | exact Pick.here | apply Pick.skip | apply Pick.app); done); focus rfl) | (apply en_pick; focus ((repeat' first | exact Pick.here | apply Pick.skip | apply Pick.app); done)) | apply en_drop | apply en_app) <;> fail)), ?_⟩
        refine RS_m retB_noPanic rfl rfl rfl rfl (ev_geq rfl rfl) ?_
        refine RS_m retB_noPanic rfl rfl rfl rfl (ev_assign rfl) ?_
        refine RS_nil ?_
        (repeat first | refine G_seq ?_ | refine G_skip ?_ | refine G_endblk ?_ | refine G_block ?_ | refine G_exit rfl ?_)
        refine G_cond_t rfl (decide_eq_true (by omega)) ?_
        (repeat first | refine G_seq ?_ | refine G_skip ?_ | refine G_endblk ?_ | refine G_block ?_ | refine G_exit rfl ?_)
        refine G_region ?_
        refine GO_q rfl rfl (ev_assign rfl) ?_
        refine GO_nil ?_
        (repeat first | refine G_seq ?_ | refine G_skip ?_ | refine G_endblk ?_ | refine G_block ?_ | refine G_exit rfl ?_)
        exact G_ret (L' := blk t 75 [.pointer T.addr, .int .i64 most] :: itH T :: L) rfl (.tmp rfl .nil) (by (repeat first | exact en_refl | (apply en_blk; focus ((repeat' first | exact Pick.here | apply Pick.skip | apply Pick.app); done); focus rfl) | (apply en_own; focus ((repeat' first | exact Pick.here | apply Pick.skip | apply Pick.app); done); focus rfl) | (apply en_pick; focus ((repeat' first | exact Pick.here | apply Pick.skip | apply Pick.app); done)) | apply en_drop | apply en_app) <;> fail) ⟨rfl, T, ⟨o1, o2, o3⟩, rfl⟩
      · have e1 : insE most k s = 0 := by unfold insE; rw [if_neg (by simp [hg]), if_neg hk, if_neg hfull]
        have e2 : insK most k s = k ++ [s] := if_pos e1
        obtain ⟨f1, f2, f3⟩ := fairP_le hg
        simp only [good, Bool.and_eq_true, decide_eq_true_eq] at f2 f3
        rw [e1, e2]
        refine Ctr_of (fn := Tryz.f13) (n := 37) Tryz.func13 rfl rfl rfl ?_
        intro g F
        (repeat first | refine G_seq ?_ | refine G_skip ?_ | refine G_endblk ?_ | refine G_block ?_ | refine G_exit rfl ?_)
        refine G_region ?_
        refine GO_eff rfl rfl (eff_box rfl) ?_; rintro _ _ ⟨b3, rfl, rfl⟩
        refine GO_q rfl rfl (ev_assign rfl) ?_
        refine GO_nil ?_
        (repeat first | refine G_seq ?_ | refine G_skip ?_ | refine G_endblk ?_ | refine G_block ?_ | refine G_exit rfl ?_)
        (repeat first | refine G_seq ?_ | refine G_skip ?_ | refine G_endblk ?_ | refine G_block ?_ | refine G_exit rfl ?_)
        refine G_region ?_
        refine GO_q rfl rfl (ev_move rfl) ?_
        (first | refine GO_q rfl rfl (ev_eqlNil rfl rfl) ?_ | refine GO_q rfl rfl (ev_eqlPtr rfl rfl) ?_)
        refine GO_q rfl rfl (ev_move rfl) ?_
        refine GO_yes rfl rfl rfl rfl ?_
        refine GO_q rfl rfl (ev_loadN rfl (by repeat' first | exact LdN.blk rfl | assumption | apply LdN.skip | apply LdN.app)) ?_
        refine GO_yes rfl rfl rfl rfl ?_
        refine GO_eff rfl rfl (eff_call rfl (hfr _)) ?_; rintro _ _ ⟨rfl, rfl⟩
        refine GO_yes rfl rfl rfl rfl ?_
        refine GO_q rfl rfl (ev_not rfl) ?_
        refine GO_q rfl rfl (ev_pick_f rfl rfl rfl) ?_
        refine GO_q rfl rfl (ev_assign rfl) ?_
        refine GO_nil ?_
        (repeat first | refine G_seq ?_ | refine G_skip ?_ | refine G_endblk ?_ | refine G_block ?_ | refine G_exit rfl ?_)
        refine G_cond_f rfl rfl ?_
        (repeat first | refine G_seq ?_ | refine G_skip ?_ | refine G_endblk ?_ | refine G_block ?_ | refine G_exit rfl ?_)
        refine G_region ?_
        refine GO_q rfl rfl (ev_move rfl) ?_
        refine GO_q rfl rfl (ev_loadN rfl (by repeat' first | exact LdN.blk rfl | assumption | apply LdN.skip | apply LdN.app)) ?_
        refine GO_eff rfl rfl (eff_call rfl (hhas _ (by repeat' first | exact hT _ | apply TI.skip))) ?_; rintro _ _ ⟨rfl, rfl⟩
        refine GO_q rfl rfl (ev_assign rfl) ?_
        refine GO_nil ?_
        (repeat first | refine G_seq ?_ | refine G_skip ?_ | refine G_endblk ?_ | refine G_block ?_ | refine G_exit rfl ?_)
        refine G_cond_f rfl rfl ?_
        (repeat first | refine G_seq ?_ | refine G_skip ?_ | refine G_endblk ?_ | refine G_block ?_ | refine G_exit rfl ?_)
        refine G_draw (.q 0 (.q 1 (.q 2 (.q 3 (.q 5 (.q 6 (.q 7 (.q 8 (.e 4 (.q 9 (.q 10 .nil))))))))))) (by kernel_rfl) (by kernel_rfl) ?_
        refine RS_m retB_noPanic rfl rfl rfl rfl (ev_move rfl) ?_
        (first | refine RS_m retB_noPanic rfl rfl rfl rfl (ev_nilCheck rfl) ?_ | refine RS_m retB_noPanic rfl rfl rfl rfl (ev_nilCheckF (by simp) rfl) ?_)
        refine RS_m retB_noPanic rfl rfl rfl rfl (ev_fieldAddr rfl) ?_
        refine RS_q retB_noPanic rfl rfl rfl rfl (ev_load rfl (by repeat' first | exact Ld.blk rfl | assumption | apply Ld.skip | apply Ld.app)) ?_
        refine RS_m retB_noPanic rfl rfl rfl rfl (ev_move rfl) ?_
        (first | refine RS_m retB_noPanic rfl rfl rfl rfl (ev_nilCheck rfl) ?_ | refine RS_m retB_noPanic rfl rfl rfl rfl (ev_nilCheckF (by simp) rfl) ?_)
        refine RS_m retB_noPanic rfl rfl rfl rfl (ev_fieldAddr rfl) ?_
        refine RS_q retB_noPanic rfl rfl rfl rfl (ev_load rfl (by repeat' first | exact Ld.blk rfl | assumption | apply Ld.skip | apply Ld.app)) ?_
        refine RS_e (RE_eff rfl rfl rfl (eff_call rfl (isize_ctr T _ (by repeat' first | exact (hT _).i | apply IIn.skip))) ?_); rintro _ _ ⟨rfl, rfl⟩; refine ⟨_, fun _ s => s, (by first | ((repeat first | exact fun _ s => s | apply en_keep | apply en_drop | apply en_app) <;> fail) | ((repeat first | exact en_refl | (apply en_blk; focus ((repeat' first | exact Pick.here | apply Pick.skip | apply Pick.app); done); focus rfl) | (apply en_own; focus ((repeat' first | exact Pick.here | apply Pick.skip | apply Pick.app); done); focus rfl) | (apply en_pick; focus ((repeat' first | exact Pick.here | apply Pick.skip | apply Pick.app); done)) | apply en_drop | apply en_app) <;> fail)), ?_⟩
        refine RS_m retB_noPanic rfl rfl rfl rfl (ev_geq rfl rfl) ?_
        refine RS_m retB_noPanic rfl rfl rfl rfl (ev_assign rfl) ?_
        refine RS_nil ?_
        (repeat first | refine G_seq ?_ | refine G_skip ?_ | refine G_endblk ?_ | refine G_block ?_ | refine G_exit rfl ?_)
        refine G_cond_f rfl (decide_eq_false (by omega)) ?_
        (repeat first | refine G_seq ?_ | refine G_skip ?_ | refine G_endblk ?_ | refine G_block ?_ | refine G_exit rfl ?_)
        (repeat first | refine G_seq ?_ | refine G_skip ?_ | refine G_endblk ?_ | refine G_block ?_ | refine G_exit rfl ?_)
        refine G_drawE 3 (.q 0 (.q 1 (.q 2 (.q 3 (.q 4 (.q 5 (.e 6 (.q 7 (.q 8 (.e 9 .nil)))))))))) (by kernel_rfl) (by kernel_rfl) ?_
        refine RS_m retB_noPanic rfl rfl rfl rfl (ev_move rfl) ?_
        refine RS_m retB_noPanic rfl rfl rfl rfl (ev_move rfl) ?_
        (first | refine RS_m retB_noPanic rfl rfl rfl rfl (ev_nilCheck rfl) ?_ | refine RS_m retB_noPanic rfl rfl rfl rfl (ev_nilCheckF (by simp) rfl) ?_)
        refine RS_m retB_noPanic rfl rfl rfl rfl (ev_fieldAddr rfl) ?_
        refine RS_q retB_noPanic rfl rfl rfl rfl (ev_load rfl (by repeat' first | exact Ld.blk rfl | assumption | apply Ld.skip | apply Ld.app)) ?_
        refine RS_q retB_noPanic rfl rfl rfl rfl (ev_loadN rfl (by repeat' first | exact LdN.blk rfl | assumption | apply LdN.skip | apply LdN.app)) ?_
        refine RS_e (RE_cmp (by kernel_rfl) rfl rfl rfl (eff_call rfl (Ctr.pick (by repeat' first | exact Pick.here | apply Pick.skip | apply Pick.app) (put_ctr T s _ o1 o2 f1 (by omega) (by omega) (fun h => hk (hmem.1 h)) (by omega)))) ?_); rintro _ _ ⟨T', ⟨t1, t2, t3⟩, rfl, rfl⟩
        (first | refine RS_m retB_noPanic rfl rfl rfl rfl (ev_nilCheck rfl) ?_ | refine RS_m retB_noPanic rfl rfl rfl rfl (ev_nilCheckF (by simp) rfl) ?_)
        refine RS_m retB_noPanic rfl rfl rfl rfl (ev_fieldAddr rfl) ?_
        refine RS_e (RE_last (by kernel_rfl) rfl rfl rfl (eff_store rfl rfl rfl (by repeat' first | exact Upd.here rfl | apply Upd.skip | apply Upd.app)) ?_); rintro _ _ ⟨rfl, rfl⟩
        (repeat first | refine G_seq ?_ | refine G_skip ?_ | refine G_endblk ?_ | refine G_block ?_ | refine G_exit rfl ?_)
        refine G_region ?_
        refine GO_q rfl rfl (ev_assign rfl) ?_
        refine GO_nil ?_
        (repeat first | refine G_seq ?_ | refine G_skip ?_ | refine G_endblk ?_ | refine G_block ?_ | refine G_exit rfl ?_)
        exact G_ret (L' := blk t 75 [.pointer T'.addr, .int .i64 most] :: itH T' :: L) rfl (.tmp rfl .nil) (by (repeat first | exact en_refl | (apply en_blk; focus ((repeat' first | exact Pick.here | apply Pick.skip | apply Pick.app); done); focus rfl) | (apply en_own; focus ((repeat' first | exact Pick.here | apply Pick.skip | apply Pick.app); done); focus rfl) | (apply en_pick; focus ((repeat' first | exact Pick.here | apply Pick.skip | apply Pick.app); done)) | apply en_drop | apply en_app) <;> fail) ⟨rfl, T', ⟨t1, t2, t3.trans ((List.Perm.cons s o3).trans (List.perm_append_singleton s k).symm)⟩, rfl⟩
theorem iDelete_ctr (t : Nat) (most : Int) (k : List Pt) (s : Pt) (L : List HP) (T : IT) (o : treeO k T) (hn : k.length ≤ 1000) :
    Ctr Tryz.prog 14 #[.pointer (some ⟨t, 0, none⟩), s.v] (blk t 75 [.pointer T.addr, .int .i64 most] :: itH T :: L) fun v L' => v = .int .i64 (delE k s) ∧ ∃ T', treeO (k.erase s) T' ∧ L' = blk t 75 [.pointer T'.addr, .int .i64 most] :: itH T' :: L := by
  obtain ⟨o1, o2, o3⟩ := o
  have hl := o3.length_eq
  have hT : ∀ M, TI (blk t 75 [.pointer T.addr, .int .i64 most] :: itH T :: M) t T most := fun M => ⟨Ld.blk rfl, Ld.blk rfl, (itH_in T M o2).skip⟩
  have hhas := fun M h => ihas_ctr (t := t) (T := T) (most := most) (L := M) h s o1 (by omega)
  rw [o1.has_dec] at hhas
  have hmem := o3.mem_iff (a := s)
  rw [show decide (s ∈ T.spans) = decide (s ∈ k) from decide_eq_decide.2 hmem] at hhas
  by_cases hk : s ∈ k
  · have e1 : delE k s = 0 := if_pos hk
    rw [e1]
    rw [decide_eq_true hk] at hhas
    refine Ctr_of (fn := Tryz.f14) (n := 22) Tryz.func14 rfl rfl rfl ?_
    intro g F
    (repeat first | refine G_seq ?_ | refine G_skip ?_ | refine G_endblk ?_ | refine G_block ?_ | refine G_exit rfl ?_)
    refine G_region ?_
    refine GO_eff rfl rfl (eff_box rfl) ?_; rintro _ _ ⟨b3, rfl, rfl⟩
    refine GO_q rfl rfl (ev_assign rfl) ?_
    refine GO_nil ?_
    (repeat first | refine G_seq ?_ | refine G_skip ?_ | refine G_endblk ?_ | refine G_block ?_ | refine G_exit rfl ?_)
    (repeat first | refine G_seq ?_ | refine G_skip ?_ | refine G_endblk ?_ | refine G_block ?_ | refine G_exit rfl ?_)
    refine G_region ?_
    refine GO_q rfl rfl (ev_move rfl) ?_
    (first | refine GO_q rfl rfl (ev_eqlNil rfl rfl) ?_ | refine GO_q rfl rfl (ev_eqlPtr rfl rfl) ?_)
    refine GO_q rfl rfl (ev_assign rfl) ?_
    refine GO_nil ?_
    (repeat first | refine G_seq ?_ | refine G_skip ?_ | refine G_endblk ?_ | refine G_block ?_ | refine G_exit rfl ?_)
    refine G_cond_f rfl rfl ?_
    (repeat first | refine G_seq ?_ | refine G_skip ?_ | refine G_endblk ?_ | refine G_block ?_ | refine G_exit rfl ?_)
    refine G_region ?_
    refine GO_q rfl rfl (ev_move rfl) ?_
    refine GO_q rfl rfl (ev_loadN rfl (by repeat' first | exact LdN.blk rfl | assumption | apply LdN.skip | apply LdN.app)) ?_
    refine GO_eff rfl rfl (eff_call rfl (hhas _ (by repeat' first | exact hT _ | apply TI.skip))) ?_; rintro _ _ ⟨rfl, rfl⟩
    refine GO_q rfl rfl (ev_not rfl) ?_
    refine GO_q rfl rfl (ev_assign rfl) ?_
    refine GO_nil ?_
    (repeat first | refine G_seq ?_ | refine G_skip ?_ | refine G_endblk ?_ | refine G_block ?_ | refine G_exit rfl ?_)
    refine G_cond_f rfl rfl ?_
    (repeat first | refine G_seq ?_ | refine G_skip ?_ | refine G_endblk ?_ | refine G_block ?_ | refine G_exit rfl ?_)
    (repeat first | refine G_seq ?_ | refine G_skip ?_ | refine G_endblk ?_ | refine G_block ?_ | refine G_exit rfl ?_)
    refine G_drawE 3 (.q 0 (.q 1 (.q 2 (.q 3 (.q 4 (.q 5 (.e 6 (.q 7 (.q 8 (.e 9 .nil)))))))))) (by kernel_rfl) (by kernel_rfl) ?_
    refine RS_m retB_noPanic rfl rfl rfl rfl (ev_move rfl) ?_
    refine RS_m retB_noPanic rfl rfl rfl rfl (ev_move rfl) ?_
    (first | refine RS_m retB_noPanic rfl rfl rfl rfl (ev_nilCheck rfl) ?_ | refine RS_m retB_noPanic rfl rfl rfl rfl (ev_nilCheckF (by simp) rfl) ?_)
    refine RS_m retB_noPanic rfl rfl rfl rfl (ev_fieldAddr rfl) ?_
    refine RS_q retB_noPanic rfl rfl rfl rfl (ev_load rfl (by repeat' first | exact Ld.blk rfl | assumption | apply Ld.skip | apply Ld.app)) ?_
    refine RS_q retB_noPanic rfl rfl rfl rfl (ev_loadN rfl (by repeat' first | exact LdN.blk rfl | assumption | apply LdN.skip | apply LdN.app)) ?_
    refine RS_e (RE_cmp (by kernel_rfl) rfl rfl rfl (eff_call rfl (Ctr.pick (by repeat' first | exact Pick.here | apply Pick.skip | apply Pick.app) (cut_ctr T s _ o1 o2 (hmem.2 hk) (by omega)))) ?_); rintro _ _ ⟨T', ⟨t1, t2, t3⟩, rfl, rfl⟩
    (first | refine RS_m retB_noPanic rfl rfl rfl rfl (ev_nilCheck rfl) ?_ | refine RS_m retB_noPanic rfl rfl rfl rfl (ev_nilCheckF (by simp) rfl) ?_)
    refine RS_m retB_noPanic rfl rfl rfl rfl (ev_fieldAddr rfl) ?_
    refine RS_e (RE_last (by kernel_rfl) rfl rfl rfl (eff_store rfl rfl rfl (by repeat' first | exact Upd.here rfl | apply Upd.skip | apply Upd.app)) ?_); rintro _ _ ⟨rfl, rfl⟩
    (repeat first | refine G_seq ?_ | refine G_skip ?_ | refine G_endblk ?_ | refine G_block ?_ | refine G_exit rfl ?_)
    refine G_region ?_
    refine GO_q rfl rfl (ev_assign rfl) ?_
    refine GO_nil ?_
    (repeat first | refine G_seq ?_ | refine G_skip ?_ | refine G_endblk ?_ | refine G_block ?_ | refine G_exit rfl ?_)
    exact G_ret (L' := blk t 75 [.pointer T'.addr, .int .i64 most] :: itH T' :: L) rfl (.tmp rfl .nil) (by (repeat first | exact en_refl | (apply en_blk; focus ((repeat' first | exact Pick.here | apply Pick.skip | apply Pick.app); done); focus rfl) | (apply en_own; focus ((repeat' first | exact Pick.here | apply Pick.skip | apply Pick.app); done); focus rfl) | (apply en_pick; focus ((repeat' first | exact Pick.here | apply Pick.skip | apply Pick.app); done)) | apply en_drop | apply en_app) <;> fail) ⟨rfl, T', ⟨t1, t2, t3.trans (o3.erase s)⟩, rfl⟩
  · have e1 : delE k s = 6 := if_neg hk
    rw [e1, List.erase_of_not_mem hk]
    rw [decide_eq_false hk] at hhas
    refine Ctr_of (fn := Tryz.f14) (n := 22) Tryz.func14 rfl rfl rfl ?_
    intro g F
    (repeat first | refine G_seq ?_ | refine G_skip ?_ | refine G_endblk ?_ | refine G_block ?_ | refine G_exit rfl ?_)
    refine G_region ?_
    refine GO_eff rfl rfl (eff_box rfl) ?_; rintro _ _ ⟨b3, rfl, rfl⟩
    refine GO_q rfl rfl (ev_assign rfl) ?_
    refine GO_nil ?_
    (repeat first | refine G_seq ?_ | refine G_skip ?_ | refine G_endblk ?_ | refine G_block ?_ | refine G_exit rfl ?_)
    (repeat first | refine G_seq ?_ | refine G_skip ?_ | refine G_endblk ?_ | refine G_block ?_ | refine G_exit rfl ?_)
    refine G_region ?_
    refine GO_q rfl rfl (ev_move rfl) ?_
    (first | refine GO_q rfl rfl (ev_eqlNil rfl rfl) ?_ | refine GO_q rfl rfl (ev_eqlPtr rfl rfl) ?_)
    refine GO_q rfl rfl (ev_assign rfl) ?_
    refine GO_nil ?_
    (repeat first | refine G_seq ?_ | refine G_skip ?_ | refine G_endblk ?_ | refine G_block ?_ | refine G_exit rfl ?_)
    refine G_cond_f rfl rfl ?_
    (repeat first | refine G_seq ?_ | refine G_skip ?_ | refine G_endblk ?_ | refine G_block ?_ | refine G_exit rfl ?_)
    refine G_region ?_
    refine GO_q rfl rfl (ev_move rfl) ?_
    refine GO_q rfl rfl (ev_loadN rfl (by repeat' first | exact LdN.blk rfl | assumption | apply LdN.skip | apply LdN.app)) ?_
    refine GO_eff rfl rfl (eff_call rfl (hhas _ (by repeat' first | exact hT _ | apply TI.skip))) ?_; rintro _ _ ⟨rfl, rfl⟩
    refine GO_q rfl rfl (ev_not rfl) ?_
    refine GO_q rfl rfl (ev_assign rfl) ?_
    refine GO_nil ?_
    (repeat first | refine G_seq ?_ | refine G_skip ?_ | refine G_endblk ?_ | refine G_block ?_ | refine G_exit rfl ?_)
    refine G_cond_t rfl rfl ?_
    (repeat first | refine G_seq ?_ | refine G_skip ?_ | refine G_endblk ?_ | refine G_block ?_ | refine G_exit rfl ?_)
    refine G_region ?_
    refine GO_q rfl rfl (ev_assign rfl) ?_
    refine GO_nil ?_
    (repeat first | refine G_seq ?_ | refine G_skip ?_ | refine G_endblk ?_ | refine G_block ?_ | refine G_exit rfl ?_)
    exact G_ret (L' := blk t 75 [.pointer T.addr, .int .i64 most] :: itH T :: L) rfl (.tmp rfl .nil) (by (repeat first | exact en_refl | (apply en_blk; focus ((repeat' first | exact Pick.here | apply Pick.skip | apply Pick.app); done); focus rfl) | (apply en_own; focus ((repeat' first | exact Pick.here | apply Pick.skip | apply Pick.app); done); focus rfl) | (apply en_pick; focus ((repeat' first | exact Pick.here | apply Pick.skip | apply Pick.app); done)) | apply en_drop | apply en_app) <;> fail) ⟨rfl, T, ⟨o1, o2, o3⟩, rfl⟩
end Go.Proofs.YtjnmpogolknkpaaGreat
/- A tree of middles: what is done to it and to the references' set; that it lives. -/
namespace Go.Proofs.YtjnmpogolknkpaaGreat
attribute [local irreducible] sat
set_option linter.unusedVariables false
set_option linter.unusedSimpArgs false
set_option maxRecDepth 100000

section
variable (t b : Nat) (most : Int) (k : List Pt) (p : Pt) (L : List HP)
theorem IInsert_ctr (hk : k.length ≤ 1000) : Ctr Tryz.prog 13 #[.pointer (some ⟨t, 0, none⟩), p.v] (treeI t most k :: L) fun v L' => v = .int .i64 (insE most k p) ∧ L' = treeI t most (insK most k p) :: L :=
  Ctr.treeT fun T o => iInsert_ctr t most k p L T o hk
theorem IDelete_ctr (hk : k.length ≤ 1000) : Ctr Tryz.prog 14 #[.pointer (some ⟨t, 0, none⟩), p.v] (treeI t most k :: L) fun v L' => v = .int .i64 (delE k p) ∧ L' = treeI t most (k.erase p) :: L :=
  Ctr.treeT fun T o => iDelete_ctr t most k p L T o hk
theorem QInsert_ctr (hk : k.length ≤ 1000) : Ctr Tryz.prog 54 #[.pointer (some ⟨b, 0, none⟩), p.v] (setI b most k :: L) fun v L' => v = .int .i64 (insE most k p) ∧ L' = setI b most (insK most k p) :: L :=
  Ctr.setT fun A c o => sInsert_ctr b 39 [] A c most k p L o (by omega)
theorem QDelete_ctr (hk : k.length ≤ 1000) : Ctr Tryz.prog 53 #[.pointer (some ⟨b, 0, none⟩), p.v] (setI b most k :: L) fun v L' => v = .int .i64 (delE k p) ∧ L' = setI b most (k.erase p) :: L :=
  Ctr.setT fun A c o => sDelete_ctr b 39 [] A c most k p L o (by omega)
theorem QAt_ctr (hk : k.length ≤ 1000) : Ctr Tryz.prog 24 #[.pointer (some ⟨b, 0, none⟩), p.v] (setI b most k :: L) fun r L' => r = .int .i64 (atS k p) ∧ L' = setI b most k :: L :=
  Ctr.set0 (R := fun r => r = .int .i64 (atS k p)) fun A c L' h h' => sAt_ctr b A c most k p L' h h' (by omega)
theorem QOverlap_ctr (u v : Int) (hk : k.length ≤ 1000) : Ctr Tryz.prog 17 #[.pointer (some ⟨b, 0, none⟩), .int .i64 u, .int .i64 v] (setI b most k :: L) fun r L' => MadeQ (overK k u v) (setI b most k :: L) r L' :=
  Ctr.setQ' fun A c L' h h' => sOverlap_ctr b A c k most u v L' h h' hk
theorem QSpan_ctr (a : Ac) (hk : k.length ≤ 1000) (ha : a.at_ ≤ 9223372036854775807) : Ctr Tryz.prog 52 #[.pointer (some ⟨b, 0, none⟩), .agg #[.int .i64 a.kind, .int .i64 a.at_, .int .i64 a.p.id, .int .i64 a.p.x, .int .i64 a.p.y]] (setI b most k :: L) fun r L' => r = (actP k a).v ∧ L' = setI b most k :: L :=
  Ctr.set0 (R := fun r => r = (actP k a).v) fun A c L' h h' => gSpan_ctr b A c most a k L' h h' (by omega) ha
theorem ILen_ctr : Ctr Tryz.prog 19 #[.pointer (some ⟨t, 0, none⟩)] (treeI t most k :: L) fun r L' => r = .int .i64 (k.length : Nat) ∧ L' = treeI t most k :: L :=
  Ctr.tree0 (R := fun r => r = .int .i64 (k.length : Nat)) fun T L' o q h => by
    rw [← q.length_eq, ← o.size]; exact iLen_ctr h
theorem IHas_ctr (hk : k.length ≤ 1000) : Ctr Tryz.prog 23 #[.pointer (some ⟨t, 0, none⟩), p.v] (treeI t most k :: L) fun r L' => r = .bool (decide (p ∈ k)) ∧ L' = treeI t most k :: L :=
  Ctr.tree0 (R := fun r => r = .bool (decide (p ∈ k))) fun T L' o q h => by
    rw [show decide (p ∈ k) = T.has p by rw [o.has_dec]; exact decide_eq_decide.2 q.mem_iff.symm]
    exact iHas_ctr h p o (by rw [q.length_eq]; omega)
theorem ICheck_ctr (hk : k.length ≤ 1000) (hm : (k.length : Int) ≤ most) : Ctr Tryz.prog 26 #[.pointer (some ⟨t, 0, none⟩)] (treeI t most k :: L) fun r L' => r = .bool true ∧ L' = treeI t most k :: L :=
  Ctr.tree0 (R := fun r => r = .bool true) fun T L' o q h => iCheck_ctr t T most L' h o (by rw [q.length_eq]; omega) (by rw [o.size, q.length_eq]; exact hm)
theorem IOverlap_ctr (u v : Int) (hk : k.length ≤ 1000) : Ctr Tryz.prog 16 #[.pointer (some ⟨t, 0, none⟩), .int .i64 u, .int .i64 v] (treeI t most k :: L) fun r L' => Made 3 (overK k u v) (treeI t most k :: L) r L' :=
  Ctr.treeM fun T L' o q h => by
    rw [← over_fnd o q]; exact iOverlap_ctr h u v o (by rw [q.length_eq]; omega)
theorem IStab_ctr (u : Int) (hk : k.length ≤ 1000) : Ctr Tryz.prog 18 #[.pointer (some ⟨t, 0, none⟩), .int .i64 u] (treeI t most k :: L) fun r L' => Made 3 (overK k u u) (treeI t most k :: L) r L' :=
  Ctr.treeM fun T L' o q h => by
    rw [← over_fnd o q]; exact iStab_ctr h u o (by rw [q.length_eq]; omega)
theorem ICount_ctr (u v : Int) (hk : k.length ≤ 1000) : Ctr Tryz.prog 25 #[.pointer (some ⟨t, 0, none⟩), .int .i64 u, .int .i64 v] (treeI t most k :: L) fun r L' => r = .int .i64 ((overK k u v).length : Nat) ∧ L' = treeI t most k :: L :=
  Ctr.tree0 (R := fun r => r = .int .i64 ((overK k u v).length : Nat)) fun T L' o q h => by
    rw [← over_fnd o q]; exact iCount_ctr h u v o (by rw [q.length_eq]; omega)
theorem idoes_ctr (a : Ac) (hk : k.length ≤ 999) (ha : a.at_ ≤ 9223372036854775807) :
    Ctr Tryz.prog 22 #[.pointer (some ⟨t, 0, none⟩), .pointer (some ⟨b, 0, none⟩), .agg #[.int .i64 a.kind, .int .i64 a.at_, .int .i64 a.p.id, .int .i64 a.p.x, .int .i64 a.p.y]] (treeI t most k :: setI b most k :: L) fun v L' => v = .bool true ∧ L' = treeI t most (actK most k a) :: setI b most (actK most k a) :: L := by
  refine Ctr_of (fn := Tryz.f22) (n := 33) Tryz.func22 rfl rfl rfl ?_
  intro g F
  (repeat first | refine G_seq ?_ | refine G_skip ?_ | refine G_endblk ?_ | refine G_block ?_ | refine G_exit rfl ?_)
  refine G_region ?_
  refine GO_eff rfl rfl (eff_box rfl) ?_; rintro _ _ ⟨b5, rfl, rfl⟩
  refine GO_q rfl rfl (ev_assign rfl) ?_
  refine GO_nil ?_
  (repeat first | refine G_seq ?_ | refine G_skip ?_ | refine G_endblk ?_ | refine G_block ?_ | refine G_exit rfl ?_)
  (repeat first | refine G_seq ?_ | refine G_skip ?_ | refine G_endblk ?_ | refine G_block ?_ | refine G_exit rfl ?_)
  refine G_region ?_
  refine GO_q rfl rfl (ev_move rfl) ?_
  refine GO_q rfl rfl (ev_loadN rfl (by repeat' first | exact LdN.blk rfl | assumption | apply LdN.skip | apply LdN.app)) ?_
  refine GO_eff rfl rfl (eff_call rfl (Ctr.pick (by repeat' first | exact Pick.here | apply Pick.skip | apply Pick.app) (QSpan_ctr b most k _ a (by omega) ha))) ?_; rintro _ _ ⟨rfl, rfl⟩
  refine GO_eff rfl rfl eff_alloc ?_; rintro _ _ ⟨b7, rfl, rfl⟩
  refine GO_eff rfl rfl (eff_storeN rfl rfl rfl rfl (by repeat' first | exact Upd.here rfl | apply Upd.skip | apply Upd.app)) ?_; rintro _ _ ⟨rfl, rfl⟩
  refine GO_nil ?_
  all_goals
    generalize hp : actP k a = p
    by_cases hk' : a.kind = 1 ∨ a.kind = 2
    · have e : actK most k a = k.erase p := by unfold actK; rw [if_pos hk', hp]
      rw [e]
      by_cases k1 : a.kind = 1
      · skip
        (repeat first | refine G_seq ?_ | refine G_skip ?_ | refine G_endblk ?_ | refine G_block ?_ | refine G_exit rfl ?_)
        refine G_region ?_
        refine GO_q rfl rfl (ev_fieldAddr rfl) ?_
        refine GO_q rfl rfl (ev_load rfl (by repeat' first | exact Ld.blk rfl | assumption | apply Ld.skip | apply Ld.app)) ?_
        refine GO_q rfl rfl (ev_eql rfl rfl) ?_
        refine GO_q rfl rfl (ev_move rfl) ?_
        refine GO_no rfl rfl rfl (decide_eq_true k1) ?_
        refine GO_no rfl rfl rfl (decide_eq_true k1) ?_
        refine GO_no rfl rfl rfl (decide_eq_true k1) ?_
        refine GO_q rfl rfl (ev_pick_t rfl (decide_eq_true k1) rfl) ?_
        refine GO_nil ?_
        (repeat first | refine G_seq ?_ | refine G_skip ?_ | refine G_endblk ?_ | refine G_block ?_ | refine G_exit rfl ?_)
        refine G_cond_t rfl rfl ?_
        (repeat first | refine G_seq ?_ | refine G_skip ?_ | refine G_endblk ?_ | refine G_block ?_ | refine G_exit rfl ?_)
        refine G_drawE 4 (.q 0 (.q 1 (.q 3 (.q 4 (.e 2 (.e 5 (.q 6 (.q 7 .nil)))))))) (by kernel_rfl) (by kernel_rfl) ?_
        refine RS_m retB_noPanic rfl rfl rfl rfl (ev_move rfl) ?_
        refine RS_q retB_noPanic rfl rfl rfl rfl (ev_loadN rfl (by repeat' first | exact LdN.blk rfl | assumption | apply LdN.skip | apply LdN.app)) ?_
        refine RS_m retB_noPanic rfl rfl rfl rfl (ev_move rfl) ?_
        refine RS_q retB_noPanic rfl rfl rfl rfl (ev_loadN rfl (by repeat' first | exact LdN.blk rfl | assumption | apply LdN.skip | apply LdN.app)) ?_
        refine RS_e (RE_eff rfl rfl rfl (eff_call rfl (Ctr.pick (by repeat' first | exact Pick.here | apply Pick.skip | apply Pick.app) (IDelete_ctr t most k p _ (by omega)))) ?_); rintro _ _ ⟨rfl, rfl⟩; refine ⟨_, (by first | ((repeat first | exact fun _ s => s | apply en_keep | apply en_drop | apply en_app) <;> fail) | ((repeat first | exact en_refl | (apply en_blk; focus ((repeat' first | exact Pick.here | apply Pick.skip | apply Pick.app); done); focus rfl) | (apply en_own; focus ((repeat' first | exact Pick.here | apply Pick.skip | apply Pick.app); done); focus rfl) | (apply en_pick; focus ((repeat' first | exact Pick.here | apply Pick.skip | apply Pick.app); done)) | apply en_drop | apply en_app) <;> fail)), fun _ s => s, ?_⟩
        refine RS_e (RE_cmp (by kernel_rfl) rfl rfl rfl (eff_call rfl (Ctr.pick (by repeat' first | exact Pick.here | apply Pick.skip | apply Pick.app) (QDelete_ctr b most k p _ (by omega)))) ?_); rintro _ _ ⟨rfl, rfl⟩
        refine RS_m retB_noPanic rfl rfl rfl rfl (ev_eql rfl rfl) ?_
        refine RS_m retB_noPanic rfl rfl rfl rfl (ev_assign rfl) ?_
        refine RS_nil ?_
        (repeat first | refine G_seq ?_ | refine G_skip ?_ | refine G_endblk ?_ | refine G_block ?_ | refine G_exit rfl ?_)
        refine G_ret (L' := treeI t most (k.erase p) :: setI b most (k.erase p) :: L) rfl (.tmp rfl .nil) (by (repeat first | exact en_refl | (apply en_blk; focus ((repeat' first | exact Pick.here | apply Pick.skip | apply Pick.app); done); focus rfl) | (apply en_own; focus ((repeat' first | exact Pick.here | apply Pick.skip | apply Pick.app); done); focus rfl) | (apply en_pick; focus ((repeat' first | exact Pick.here | apply Pick.skip | apply Pick.app); done)) | apply en_drop | apply en_app) <;> fail) ⟨by simp [retv], rfl⟩
      · have k2 : a.kind = 2 := by omega
        (repeat first | refine G_seq ?_ | refine G_skip ?_ | refine G_endblk ?_ | refine G_block ?_ | refine G_exit rfl ?_)
        refine G_region ?_
        refine GO_q rfl rfl (ev_fieldAddr rfl) ?_
        refine GO_q rfl rfl (ev_load rfl (by repeat' first | exact Ld.blk rfl | assumption | apply Ld.skip | apply Ld.app)) ?_
        refine GO_q rfl rfl (ev_eql rfl rfl) ?_
        refine GO_q rfl rfl (ev_move rfl) ?_
        refine GO_yes rfl rfl rfl (decide_eq_false k1) ?_
        refine GO_q rfl rfl (ev_fieldAddr rfl) ?_
        refine GO_yes rfl rfl rfl (decide_eq_false k1) ?_
        refine GO_q rfl rfl (ev_load rfl (by repeat' first | exact Ld.blk rfl | assumption | apply Ld.skip | apply Ld.app)) ?_
        refine GO_yes rfl rfl rfl (decide_eq_false k1) ?_
        refine GO_q rfl rfl (ev_eql rfl rfl) ?_
        refine GO_q rfl rfl (ev_pick_f rfl (decide_eq_false k1) rfl) ?_
        refine GO_nil ?_
        (repeat first | refine G_seq ?_ | refine G_skip ?_ | refine G_endblk ?_ | refine G_block ?_ | refine G_exit rfl ?_)
        refine G_cond_t rfl (decide_eq_true k2) ?_
        (repeat first | refine G_seq ?_ | refine G_skip ?_ | refine G_endblk ?_ | refine G_block ?_ | refine G_exit rfl ?_)
        refine G_drawE 4 (.q 0 (.q 1 (.q 3 (.q 4 (.e 2 (.e 5 (.q 6 (.q 7 .nil)))))))) (by kernel_rfl) (by kernel_rfl) ?_
        refine RS_m retB_noPanic rfl rfl rfl rfl (ev_move rfl) ?_
        refine RS_q retB_noPanic rfl rfl rfl rfl (ev_loadN rfl (by repeat' first | exact LdN.blk rfl | assumption | apply LdN.skip | apply LdN.app)) ?_
        refine RS_m retB_noPanic rfl rfl rfl rfl (ev_move rfl) ?_
        refine RS_q retB_noPanic rfl rfl rfl rfl (ev_loadN rfl (by repeat' first | exact LdN.blk rfl | assumption | apply LdN.skip | apply LdN.app)) ?_
        refine RS_e (RE_eff rfl rfl rfl (eff_call rfl (Ctr.pick (by repeat' first | exact Pick.here | apply Pick.skip | apply Pick.app) (IDelete_ctr t most k p _ (by omega)))) ?_); rintro _ _ ⟨rfl, rfl⟩; refine ⟨_, (by first | ((repeat first | exact fun _ s => s | apply en_keep | apply en_drop | apply en_app) <;> fail) | ((repeat first | exact en_refl | (apply en_blk; focus ((repeat' first | exact Pick.here | apply Pick.skip | apply Pick.app); done); focus rfl) | (apply en_own; focus ((repeat' first | exact Pick.here | apply Pick.skip | apply Pick.app); done); focus rfl) | (apply en_pick; focus ((repeat' first | exact Pick.here | apply Pick.skip | apply Pick.app); done)) | apply en_drop | apply en_app) <;> fail)), fun _ s => s, ?_⟩
        refine RS_e (RE_cmp (by kernel_rfl) rfl rfl rfl (eff_call rfl (Ctr.pick (by repeat' first | exact Pick.here | apply Pick.skip | apply Pick.app) (QDelete_ctr b most k p _ (by omega)))) ?_); rintro _ _ ⟨rfl, rfl⟩
        refine RS_m retB_noPanic rfl rfl rfl rfl (ev_eql rfl rfl) ?_
        refine RS_m retB_noPanic rfl rfl rfl rfl (ev_assign rfl) ?_
        refine RS_nil ?_
        (repeat first | refine G_seq ?_ | refine G_skip ?_ | refine G_endblk ?_ | refine G_block ?_ | refine G_exit rfl ?_)
        refine G_ret (L' := treeI t most (k.erase p) :: setI b most (k.erase p) :: L) rfl (.tmp rfl .nil) (by (repeat first | exact en_refl | (apply en_blk; focus ((repeat' first | exact Pick.here | apply Pick.skip | apply Pick.app); done); focus rfl) | (apply en_own; focus ((repeat' first | exact Pick.here | apply Pick.skip | apply Pick.app); done); focus rfl) | (apply en_pick; focus ((repeat' first | exact Pick.here | apply Pick.skip | apply Pick.app); done)) | apply en_drop | apply en_app) <;> fail) ⟨by simp [retv], rfl⟩
    · have e : actK most k a = insK most k p := by unfold actK; rw [if_neg hk', hp]
      rw [e]
      have k1 : ¬ a.kind = 1 := fun h => hk' (.inl h)
      have k2 : ¬ a.kind = 2 := fun h => hk' (.inr h)
      (repeat first | refine G_seq ?_ | refine G_skip ?_ | refine G_endblk ?_ | refine G_block ?_ | refine G_exit rfl ?_)
      refine G_region ?_
      refine GO_q rfl rfl (ev_fieldAddr rfl) ?_
      refine GO_q rfl rfl (ev_load rfl (by repeat' first | exact Ld.blk rfl | assumption | apply Ld.skip | apply Ld.app)) ?_
      refine GO_q rfl rfl (ev_eql rfl rfl) ?_
      refine GO_q rfl rfl (ev_move rfl) ?_
      refine GO_yes rfl rfl rfl (decide_eq_false k1) ?_
      refine GO_q rfl rfl (ev_fieldAddr rfl) ?_
      refine GO_yes rfl rfl rfl (decide_eq_false k1) ?_
      refine GO_q rfl rfl (ev_load rfl (by repeat' first | exact Ld.blk rfl | assumption | apply Ld.skip | apply Ld.app)) ?_
      refine GO_yes rfl rfl rfl (decide_eq_false k1) ?_
      refine GO_q rfl rfl (ev_eql rfl rfl) ?_
      refine GO_q rfl rfl (ev_pick_f rfl (decide_eq_false k1) rfl) ?_
      refine GO_nil ?_
      (repeat first | refine G_seq ?_ | refine G_skip ?_ | refine G_endblk ?_ | refine G_block ?_ | refine G_exit rfl ?_)
      refine G_cond_f rfl (decide_eq_false k2) ?_
      (repeat first | refine G_seq ?_ | refine G_skip ?_ | refine G_endblk ?_ | refine G_block ?_ | refine G_exit rfl ?_)
      refine G_drawE 4 (.q 0 (.q 1 (.q 3 (.q 4 (.e 2 (.e 5 (.q 6 (.q 7 .nil)))))))) (by kernel_rfl) (by kernel_rfl) ?_
      refine RS_m retB_noPanic rfl rfl rfl rfl (ev_move rfl) ?_
      refine RS_q retB_noPanic rfl rfl rfl rfl (ev_loadN rfl (by repeat' first | exact LdN.blk rfl | assumption | apply LdN.skip | apply LdN.app)) ?_
      refine RS_m retB_noPanic rfl rfl rfl rfl (ev_move rfl) ?_
      refine RS_q retB_noPanic rfl rfl rfl rfl (ev_loadN rfl (by repeat' first | exact LdN.blk rfl | assumption | apply LdN.skip | apply LdN.app)) ?_
      refine RS_e (RE_eff rfl rfl rfl (eff_call rfl (Ctr.pick (by repeat' first | exact Pick.here | apply Pick.skip | apply Pick.app) (IInsert_ctr t most k p _ (by omega)))) ?_); rintro _ _ ⟨rfl, rfl⟩; refine ⟨_, (by first | ((repeat first | exact fun _ s => s | apply en_keep | apply en_drop | apply en_app) <;> fail) | ((repeat first | exact en_refl | (apply en_blk; focus ((repeat' first | exact Pick.here | apply Pick.skip | apply Pick.app); done); focus rfl) | (apply en_own; focus ((repeat' first | exact Pick.here | apply Pick.skip | apply Pick.app); done); focus rfl) | (apply en_pick; focus ((repeat' first | exact Pick.here | apply Pick.skip | apply Pick.app); done)) | apply en_drop | apply en_app) <;> fail)), fun _ s => s, ?_⟩
      refine RS_e (RE_cmp (by kernel_rfl) rfl rfl rfl (eff_call rfl (Ctr.pick (by repeat' first | exact Pick.here | apply Pick.skip | apply Pick.app) (QInsert_ctr b most k p _ (by omega)))) ?_); rintro _ _ ⟨rfl, rfl⟩
      refine RS_m retB_noPanic rfl rfl rfl rfl (ev_eql rfl rfl) ?_
      refine RS_m retB_noPanic rfl rfl rfl rfl (ev_assign rfl) ?_
      refine RS_nil ?_
      (repeat first | refine G_seq ?_ | refine G_skip ?_ | refine G_endblk ?_ | refine G_block ?_ | refine G_exit rfl ?_)
      refine G_ret (L' := treeI t most (insK most k p) :: setI b most (insK most k p) :: L) rfl (.tmp rfl .nil) (by (repeat first | exact en_refl | (apply en_blk; focus ((repeat' first | exact Pick.here | apply Pick.skip | apply Pick.app); done); focus rfl) | (apply en_own; focus ((repeat' first | exact Pick.here | apply Pick.skip | apply Pick.app); done); focus rfl) | (apply en_pick; focus ((repeat' first | exact Pick.here | apply Pick.skip | apply Pick.app); done)) | apply en_drop | apply en_app) <;> fail) ⟨by simp [retv], rfl⟩
end
theorem iMade_ctr (A : Option Addr) (n c : Nat) (acts : List Ac) (L : List HP) (hl : Rd L A n acts) (hn : n ≤ 9223372036854775807) (ha : ∀ a ∈ acts, a.at_ ≤ 9223372036854775807) :
    Ctr Tryz.prog 12 #[.slice A n c] L fun v L' => ∃ t b k, v = .tuple #[.pointer (some ⟨t, 0, none⟩), .pointer (some ⟨b, 0, none⟩), .bool true] ∧ k.length ≤ 60 ∧ L' = treeI t 60 k :: setI b 60 k :: L := by
  have h1 : acts.length = n := hl.len (by decide)
  have o0 : AdOk none 0 ([] : List Pt) := ⟨fun h => absurd h (Nat.lt_irrefl 0), Nat.le_refl _⟩
  refine Ctr_of (fn := Tryz.f12) (n := 43) Tryz.func12 rfl rfl rfl ?_
  intro g F
  (repeat first | refine G_seq ?_ | refine G_skip ?_ | refine G_endblk ?_ | refine G_block ?_ | refine G_exit rfl ?_)
  refine G_region ?_
  refine GO_q rfl rfl (ev_assign rfl) ?_
  refine GO_q rfl rfl (ev_assign rfl) ?_
  refine GO_q rfl rfl (ev_assign rfl) ?_
  refine GO_nil ?_
  (repeat first | refine G_seq ?_ | refine G_skip ?_ | refine G_endblk ?_ | refine G_block ?_ | refine G_exit rfl ?_)
  refine G_region ?_
  refine GO_eff rfl rfl (eff_call rfl (iNew_ctr 60 _ (by decide) (by decide))) ?_; rintro _ _ ⟨t, rfl, rfl⟩
  refine GO_q rfl rfl (ev_move rfl) ?_
  refine GO_q rfl rfl (ev_extract rfl rfl) ?_
  refine GO_q rfl rfl (ev_extract rfl rfl) ?_
  refine GO_q rfl rfl (ev_assign rfl) ?_
  refine GO_q rfl rfl (ev_assign rfl) ?_
  refine GO_nil ?_
  (repeat first | refine G_seq ?_ | refine G_skip ?_ | refine G_endblk ?_ | refine G_block ?_ | refine G_exit rfl ?_)
  refine G_region ?_
  refine GO_q rfl rfl (ev_build rfl rfl) ?_
  refine GO_eff rfl rfl (eff_box rfl) ?_; rintro _ _ ⟨b14, rfl, rfl⟩
  refine GO_q rfl rfl (ev_assign rfl) ?_
  refine GO_nil ?_
  (repeat first | refine G_seq ?_ | refine G_skip ?_ | refine G_endblk ?_ | refine G_block ?_ | refine G_exit rfl ?_)
  refine G_region ?_
  refine GO_q rfl rfl (ev_move rfl) ?_
  (first | refine GO_q rfl rfl (ev_eqlNil rfl rfl) ?_ | refine GO_q rfl rfl (ev_eqlPtr rfl rfl) ?_)
  refine GO_q rfl rfl (ev_move rfl) ?_
  refine GO_yes rfl rfl rfl rfl ?_
  refine GO_q rfl rfl (ev_move rfl) ?_
  refine GO_yes rfl rfl rfl rfl ?_
  refine GO_q rfl rfl (ev_neq rfl rfl) ?_
  refine GO_q rfl rfl (ev_pick_f rfl rfl rfl) ?_
  refine GO_nil ?_
  (repeat first | refine G_seq ?_ | refine G_skip ?_ | refine G_endblk ?_ | refine G_block ?_ | refine G_exit rfl ?_)
  refine G_cond_f rfl rfl ?_
  (repeat first | refine G_seq ?_ | refine G_skip ?_ | refine G_endblk ?_ | refine G_block ?_ | refine G_exit rfl ?_)
  refine G_region ?_
  refine GO_q rfl rfl (ev_assign rfl) ?_
  refine GO_nil ?_
  (repeat first | refine G_seq ?_ | refine G_skip ?_ | refine G_endblk ?_ | refine G_block ?_ | refine G_exit rfl ?_)
  refine G_heap (own.nil_ 24 3) ?_
  refine G_heap (L' := treeI t 60 [] :: setI b14 60 [] :: F :: L) (en_pick (by repeat' first | exact Pick.here | apply Pick.skip | apply Pick.app) (en_setI o0 (by (repeat first | exact en_refl | (apply en_blk; focus ((repeat' first | exact Pick.here | apply Pick.skip | apply Pick.app); done); focus rfl) | (apply en_own; focus ((repeat' first | exact Pick.here | apply Pick.skip | apply Pick.app); done); focus rfl) | (apply en_pick; focus ((repeat' first | exact Pick.here | apply Pick.skip | apply Pick.app); done)) | apply en_drop | apply en_app) <;> fail))) ?_
  refine G_loop (ι := Nat) (fun k => [(0, .slice A n c), (5, .pointer (some ⟨t, 0, none⟩)), (7, .pointer (some ⟨b14, 0, none⟩)), (8, .int .i64 (k : Nat))]) (fun k => treeI t 60 (playK 60 (acts.take k)) :: setI b14 60 (playK 60 (acts.take k)) :: F :: L) (fun k => k ≤ n ∧ k ≤ 80 ∧ ((playK 60 (acts.take k)).length : Int) ≤ 60) (fun k => n - k) 0 ⟨Nat.zero_le _, Nat.zero_le _, by show ((0 : Nat) : Int) ≤ 60; decide⟩ ⟨rfl, rfl, rfl, rfl, trivial⟩ (fun _ s => s) ?_
  rintro k ⟨f1, f2, f3⟩
  by_cases c1 : k < n
  · by_cases c2 : k < 80
    · obtain ⟨lb, lo, rfl, hx⟩ := hl.at_ (by omega)
      have g1 : acts[k]? = some acts[k] := List.getElem?_eq_getElem (by omega)
      have y1 := hx _ _ g1
      have s1 := playK_succ 60 acts k (by omega)
      have m1 := ha acts[k] (List.getElem_mem _)
      have m2 := actK_most (a := acts[k]) f3
      rw [← s1] at m2
      generalize acts[k] = u at *
      have z1 : LdN L lb (lo + k * 5) 5 [.int .i64 u.kind, .int .i64 u.at_, .int .i64 u.p.id, .int .i64 u.p.x, .int .i64 u.p.y] := y1
      (repeat first | refine G_seq ?_ | refine G_skip ?_ | refine G_endblk ?_ | refine G_block ?_ | refine G_exit rfl ?_)
      refine G_region ?_
      refine GO_q rfl rfl (ev_move rfl) ?_
      refine GO_q rfl rfl (ev_move rfl) ?_
      refine GO_q rfl rfl (ev_len rfl) ?_
      (first | refine GO_q rfl rfl (ev_lssN rfl rfl) ?_ | refine GO_q rfl rfl (ev_lss rfl rfl) ?_)
      refine GO_q rfl rfl (ev_move rfl) ?_
      refine GO_yes rfl rfl rfl (decide_eq_true (by omega)) ?_
      refine GO_q rfl rfl (ev_move rfl) ?_
      refine GO_yes rfl rfl rfl (decide_eq_true (by omega)) ?_
      (first | refine GO_q rfl rfl (ev_lssN (q := 80) rfl rfl) ?_ | refine GO_q rfl rfl (ev_lss rfl rfl) ?_)
      refine GO_q rfl rfl (ev_pick_t rfl (decide_eq_true (by omega)) rfl) ?_
      refine GO_nil ?_
      (repeat first | refine G_seq ?_ | refine G_skip ?_ | refine G_endblk ?_ | refine G_block ?_ | refine G_exit rfl ?_)
      refine G_cond_t rfl (decide_eq_true (by omega)) ?_
      (repeat first | refine G_seq ?_ | refine G_skip ?_ | refine G_endblk ?_ | refine G_block ?_ | refine G_exit rfl ?_)
      refine G_region ?_
      refine GO_q rfl rfl (ev_move rfl) ?_
      refine GO_q rfl rfl (ev_move rfl) ?_
      refine GO_q rfl rfl (ev_move rfl) ?_
      refine GO_q rfl rfl (ev_move rfl) ?_
      (first | refine GO_q rfl rfl (ev_indexAddrN rfl rfl (by first | omega | (simp; done) | (simp; omega))) ?_ | refine GO_q rfl rfl (ev_indexAddr rfl rfl (by first | omega | (simp; done) | (simp; omega)) (by first | omega | (simp; done) | (simp; omega))) ?_)
      refine GO_q rfl rfl (ev_loadN rfl (by repeat' first | exact LdN.blk rfl | assumption | apply LdN.skip | apply LdN.app)) ?_
      refine GO_eff rfl rfl (eff_call rfl (Ctr.pre (M := treeI t 60 _ :: setI b14 60 _ :: _) (by (repeat first | exact en_refl | (apply en_blk; focus ((repeat' first | exact Pick.here | apply Pick.skip | apply Pick.app); done); focus rfl) | (apply en_own; focus ((repeat' first | exact Pick.here | apply Pick.skip | apply Pick.app); done); focus rfl) | (apply en_pick; focus ((repeat' first | exact Pick.here | apply Pick.skip | apply Pick.app); done)) | apply en_drop | apply en_app) <;> fail) (idoes_ctr t b14 60 _ _ u (by omega) m1))) ?_; rintro _ _ ⟨rfl, rfl⟩
      refine GO_q rfl rfl (ev_not rfl) ?_
      refine GO_nil ?_
      (repeat first | refine G_seq ?_ | refine G_skip ?_ | refine G_endblk ?_ | refine G_block ?_ | refine G_exit rfl ?_)
      refine G_cond_f rfl rfl ?_
      rw [← s1]
      (repeat first | refine G_seq ?_ | refine G_skip ?_ | refine G_endblk ?_ | refine G_block ?_ | refine G_exit rfl ?_)
      refine G_region ?_
      refine GO_q rfl rfl (ev_move rfl) ?_
      (first | refine GO_q rfl rfl (ev_addN (q := 1) rfl rfl (by first | omega | (simp; done) | (simp; omega))) ?_ | refine GO_q rfl rfl (ev_add rfl rfl (by first | omega | (simp; done) | (simp; omega))) ?_)
      refine GO_q rfl rfl (ev_assign rfl) ?_
      refine GO_nil ?_
      (repeat first | refine G_seq ?_ | refine G_skip ?_ | refine G_endblk ?_ | refine G_block ?_ | refine G_exit rfl ?_)
      exact G_round (k + 1) ⟨by omega, by omega, m2⟩ (by omega) ⟨rfl, rfl, rfl, rfl, trivial⟩ (by (repeat first | exact fun _ s => s | apply en_keep | apply en_drop | apply en_app) <;> fail)
    · skip
      (repeat first | refine G_seq ?_ | refine G_skip ?_ | refine G_endblk ?_ | refine G_block ?_ | refine G_exit rfl ?_)
      refine G_region ?_
      refine GO_q rfl rfl (ev_move rfl) ?_
      refine GO_q rfl rfl (ev_move rfl) ?_
      refine GO_q rfl rfl (ev_len rfl) ?_
      (first | refine GO_q rfl rfl (ev_lssN rfl rfl) ?_ | refine GO_q rfl rfl (ev_lss rfl rfl) ?_)
      refine GO_q rfl rfl (ev_move rfl) ?_
      refine GO_yes rfl rfl rfl (decide_eq_true (by omega)) ?_
      refine GO_q rfl rfl (ev_move rfl) ?_
      refine GO_yes rfl rfl rfl (decide_eq_true (by omega)) ?_
      (first | refine GO_q rfl rfl (ev_lssN (q := 80) rfl rfl) ?_ | refine GO_q rfl rfl (ev_lss rfl rfl) ?_)
      refine GO_q rfl rfl (ev_pick_t rfl (decide_eq_true (by omega)) rfl) ?_
      refine GO_nil ?_
      (repeat first | refine G_seq ?_ | refine G_skip ?_ | refine G_endblk ?_ | refine G_block ?_ | refine G_exit rfl ?_)
      refine G_cond_f rfl (decide_eq_false (by omega)) ?_
      (repeat first | refine G_seq ?_ | refine G_skip ?_ | refine G_endblk ?_ | refine G_block ?_ | refine G_exit rfl ?_)
      refine G_region ?_
      refine GO_q rfl rfl (ev_move rfl) ?_
      refine GO_q rfl rfl (ev_move rfl) ?_
      refine GO_q rfl rfl (ev_assign rfl) ?_
      refine GO_q rfl rfl (ev_assign rfl) ?_
      refine GO_q rfl rfl (ev_assign rfl) ?_
      refine GO_nil ?_
      (repeat first | refine G_seq ?_ | refine G_skip ?_ | refine G_endblk ?_ | refine G_block ?_ | refine G_exit rfl ?_)
      exact G_ret (L' := treeI t 60 (playK 60 (acts.take k)) :: setI b14 60 (playK 60 (acts.take k)) :: L) rfl (.tmp rfl (.tmp rfl (.tmp rfl .nil))) (by (repeat first | exact en_refl | (apply en_blk; focus ((repeat' first | exact Pick.here | apply Pick.skip | apply Pick.app); done); focus rfl) | (apply en_own; focus ((repeat' first | exact Pick.here | apply Pick.skip | apply Pick.app); done); focus rfl) | (apply en_pick; focus ((repeat' first | exact Pick.here | apply Pick.skip | apply Pick.app); done)) | apply en_drop | apply en_app) <;> fail) ⟨t, b14, _, rfl, by omega, rfl⟩
  · skip
    (repeat first | refine G_seq ?_ | refine G_skip ?_ | refine G_endblk ?_ | refine G_block ?_ | refine G_exit rfl ?_)
    refine G_region ?_
    refine GO_q rfl rfl (ev_move rfl) ?_
    refine GO_q rfl rfl (ev_move rfl) ?_
    refine GO_q rfl rfl (ev_len rfl) ?_
    (first | refine GO_q rfl rfl (ev_lssN rfl rfl) ?_ | refine GO_q rfl rfl (ev_lss rfl rfl) ?_)
    refine GO_q rfl rfl (ev_move rfl) ?_
    refine GO_no rfl rfl rfl (decide_eq_false (by omega)) ?_
    refine GO_no rfl rfl rfl (decide_eq_false (by omega)) ?_
    refine GO_q rfl rfl (ev_pick_f rfl (decide_eq_false (by omega)) rfl) ?_
    refine GO_nil ?_
    (repeat first | refine G_seq ?_ | refine G_skip ?_ | refine G_endblk ?_ | refine G_block ?_ | refine G_exit rfl ?_)
    refine G_cond_f rfl rfl ?_
    (repeat first | refine G_seq ?_ | refine G_skip ?_ | refine G_endblk ?_ | refine G_block ?_ | refine G_exit rfl ?_)
    refine G_region ?_
    refine GO_q rfl rfl (ev_move rfl) ?_
    refine GO_q rfl rfl (ev_move rfl) ?_
    refine GO_q rfl rfl (ev_assign rfl) ?_
    refine GO_q rfl rfl (ev_assign rfl) ?_
    refine GO_q rfl rfl (ev_assign rfl) ?_
    refine GO_nil ?_
    (repeat first | refine G_seq ?_ | refine G_skip ?_ | refine G_endblk ?_ | refine G_block ?_ | refine G_exit rfl ?_)
    exact G_ret (L' := treeI t 60 (playK 60 (acts.take k)) :: setI b14 60 (playK 60 (acts.take k)) :: L) rfl (.tmp rfl (.tmp rfl (.tmp rfl .nil))) (by (repeat first | exact en_refl | (apply en_blk; focus ((repeat' first | exact Pick.here | apply Pick.skip | apply Pick.app); done); focus rfl) | (apply en_own; focus ((repeat' first | exact Pick.here | apply Pick.skip | apply Pick.app); done); focus rfl) | (apply en_pick; focus ((repeat' first | exact Pick.here | apply Pick.skip | apply Pick.app); done)) | apply en_drop | apply en_app) <;> fail) ⟨t, b14, _, rfl, by omega, rfl⟩
end Go.Proofs.YtjnmpogolknkpaaGreat
